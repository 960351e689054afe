/- Merged out of this session's texts by a program (wip/gen/merge.py): declarations that this claim doesn't name are left out. -/
import Derived.Test.YtnhchnlgleokoaaDoorMRefsTexts0
import Derived.Laws.CopyRow
import Derived.Sort.Grow
import Derived.Lib.AppendZerosOnto
import Derived.Lib.Overlaps
import Derived.Deep.DeepAppendRoom
import Derived.Laws.Externs
import Derived.Test.YtnhchnlgleokoaaDoorProg
import Derived.Lib.SlicesCompact
import Derived.Lib.Bytealg
import Derived.Sort.Walk0
import Derived.Shelf.Strings.SlTrimAscii
import Derived.Shelf.Strings.Search3
import Derived.Shelf.Strings.Cut
import Derived.Shelf.Strings.Prefix
import Derived.Shelf.Strings.Split
import Derived.Shelf.Small.Strs
import Derived.Shelf.Strings.BuilderK
import Derived.Shelf.SlicesE.Clone
import Derived.Shelf.SlicesQ.Equal
import Derived.OrdersHeld
import Derived.Laws.BitsLemmas
import Derived.Outline
set_option linter.unusedVariables false
set_option linter.unusedSimpArgs false
/-! Q12 -/
section
namespace Go.Proofs.YtnhchnlgleokoaaDoor.Q
open Go.RowKit
open Go.Proofs.YtnhchnlgleokoaaDoorW.PrintWords (bytesOf bytesOf_length)
section
variable {P : Program} {Q : Exit → Act → World → Prop} {a : Act} {w : World} {o : Oper} {ops : Array Oper} {rest : List Oper} {K : Act → Prop} {C : World → Prop}
theorem wanted_un {l : List Oper} {j d : Nat} {want : Bool} (hg : o.guard = some (j, want)) (hd : dstAt l j = some d) (h : At a d undef) : Region.wanted o (yielded l.toArray a.tmps) = false := by
  rw [← dstAt_eq] at hd
  unfold At at h
  unfold Region.wanted yielded
  rw [hg]
  simp only [hd]
  cases want <;> simp [h, undef]
variable {c b : List Int} {f n : Int}
/-- bytes written over a row's middle -/
def over (b y : List Int) (i : Nat) : List Int := b.take i ++ y ++ b.drop (i + y.length)
theorem q_cuthi {T : TypeId} {x hi : Operand} {s : ByteArray} {k : Nat} (ho : o.op = .slice T x none (some hi) none) (hT : P.underlying T = some .string) (hx : a.eval x = .string s) (hh : a.eval hi = .int .i64 (k : Int)) (hk : k ≤ s.size) (hn : K (a.put o.dst (.string (s.extract 0 k)))) : o.quiet P a C K :=
  q_val _ (fun w _ => by
    have h1 : ((0 : Int) ≤ (k : Int) ∧ (k : Int) ≤ (s.size : Int)) := by omega
    unfold execOp
    simp [ho, hx, hh, Instr.sliceAt, Instr.slice, Instr.sliceBounds, Instr.sliceBound, asIntOf, Sem.run_bind, run_underlying hT w, h1]
    intro h2
    omega) hn
end
end Go.Proofs.YtnhchnlgleokoaaDoor.Q

namespace Go.Proofs.YtnhchnlgleokoaaDoor.Q
open Go.RowKit
section
variable {P : Program} {Q : Exit → Act → World → Prop} {a : Act} {w : World} {ops : Array Oper} {o : Oper} {K : Act → Prop} {C : World → Prop}
theorem e_fr {N : Nat} {e : Exit} (z : Fr N a) (h : ∀ a', Fr N a' → (∀ {t v}, At a t v → At a' t v) → Q e a' w) : Q e a w := e_fresh z fun a' z' m => h a' z' (fun {t v} => m t v)
theorem l_fr {N : Nat} {l : List Oper} (z : Fr N a) (h : ∀ a', Fr N a' → (∀ {t v}, At a t v → At a' t v) → wpList P ops Q l a' w) : wpList P ops Q l a w := l_fresh z fun a' z' m => h a' z' (fun {t v} => m t v)
theorem q_fr {N : Nat} {l : List Oper} (z : Fr N a) (h : ∀ a', Fr N a' → (∀ {t v}, At a t v → At a' t v) → qch P C K l a') : qch P C K l a := q_fresh z fun a' z' m => h a' z' (fun {t v} => m t v)
theorem g_fr {N : Nat} {l : List Oper} (z : Fr N a) (h : ∀ a', Fr N a' → (∀ {t v}, At a t v → At a' t v) → wpQuiet P ops C K l a') : wpQuiet P ops C K l a := g_fresh z fun a' z' m => h a' z' (fun {t v} => m t v)
theorem wis {l : List Oper} {j d : Nat} {want b r : Bool} (hg : o.guard = some (j, want)) (hd : dstAt l j = some d) (h : At a d (.bool b)) (hr : (b == want) = r) : Region.wanted o (yielded l.toArray a.tmps) = r := wanted_is hg hd h hr
theorem wun {l : List Oper} {j d : Nat} {want : Bool} (hg : o.guard = some (j, want)) (hd : dstAt l j = some d) (h : At a d undef) : Region.wanted o (yielded l.toArray a.tmps) = false := wanted_un hg hd h
theorem qm {v : Value} {t : Nat} (ho : o.op = .move (.tmp t)) (h : At a t v) (hn : K (a.put o.dst v)) : o.quiet P a C K := q_move _ _ ho h.ev hn
theorem qa {v : Value} {t : Nat} (ho : o.op = .assign (.tmp t)) (h : At a t v) (hn : K (a.put o.dst v)) : o.quiet P a C K := q_assign _ _ ho h.ev hn
end
end Go.Proofs.YtnhchnlgleokoaaDoor.Q
end
/-! Q13 -/
section
namespace Go.Proofs.YtnhchnlgleokoaaDoor.Q
open Go.RowKit
section
variable {P : Program} {Q : Exit → Act → World → Prop} {a : Act} {w : World} {o : Oper} {ops : Array Oper} {rest : List Oper} {K : Act → Prop} {C : World → Prop}
/-- the address of a slice's flat cell k -/
def pAt (v : Value) (k : Nat) : Value := match v with
  | .slice (some a) _ _ => .pointer (some (a.add k))
  | _ => .pointer none
theorem pAt_mid (g i n c k : Nat) : pAt (.slice (some ⟨g, i, none⟩) n c) k = .pointer (some ⟨g, i + k, none⟩) := by
  show Value.pointer (some ((⟨g, i, none⟩ : Addr).add k)) = _
  rw [Addr.add_mid]
/-- a slice value that reads as_ n records of sz cells: their cells, one behind the other -/
def RdF (w : World) (sz : Nat) (v : Value) (n : Nat) (cs : List Value) : Prop :=
  cs.length = n * sz ∧ ∃ A cap, v = .slice A n cap ∧ n ≤ cap ∧ (0 < n → ∃ g i, A = some ⟨g, i, none⟩ ∧ g < w.heap.size ∧ ∀ j u, cs[j]? = some u → w.cell? ⟨g, i + j, none⟩ = some u)
theorem RdF.low {sz : Nat} {v : Value} {n : Nat} {cs : List Value} {w' : World} (h : RdF w sz v n cs) (k : Low w w') : RdF w' sz v n cs := by
  obtain ⟨hl, A, cap, rfl, hc, h2⟩ := h
  refine ⟨hl, A, cap, rfl, hc, fun hp => ?_⟩
  obtain ⟨g, i, rfl, hg, h3⟩ := h2 hp
  exact ⟨g, i, rfl, Nat.lt_of_lt_of_le hg k.ge, fun j u hu => (World.cell?_of_block (k.block g hg)).trans (h3 j u hu)⟩
theorem RdF.cast {sz : Nat} {v : Value} {n n' : Nat} {cs cs' : List Value} (h : RdF w sz v n cs) (e : n = n') (e' : cs = cs') : RdF w sz v n' cs' := e ▸ e' ▸ h
/-- a row of records of the call's own -/
def OwnF (w : World) (B : Nat) (E : TypeId) (sz : Nat) (v : Value) (n : Nat) (cs : List Value) : Prop := w.ownsRow B E sz v n cs
theorem OwnF.nil (w : World) (B : Nat) (E : TypeId) (sz : Nat) : OwnF w B E sz (.slice none 0 0) 0 [] := ⟨by simp, .inl ⟨rfl, rfl⟩⟩
theorem OwnF.block {B : Nat} {E : TypeId} {sz : Nat} {v : Value} {n : Nat} {cs : List Value} (h : OwnF w B E sz v n cs) : ∀ k, v.ownBlock = some k → B ≤ k ∧ k < w.heap.size ∧ ∃ cur fz, w.heap[k]? = some (.cells cur E fz) := by
  intro k hk
  rcases h.2 with ⟨rfl, _⟩ | ⟨g, cap, cur, rfl, hg, hh, r⟩
  · simp [Value.ownBlock] at hk
  · have : g = k := by simpa [Value.ownBlock] using hk
    subst this
    exact ⟨hg, heap_lt hh, cur, _, hh⟩
theorem OwnF.keep {w' : World} {B : Nat} {E : TypeId} {sz : Nat} {v : Value} {n : Nat} {cs : List Value} (h : OwnF w B E sz v n cs) (hm : ∀ k, v.ownBlock = some k → w'.heap[k]? = w.heap[k]?) : OwnF w' B E sz v n cs := by
  refine ⟨h.1, ?_⟩
  rcases h.2 with h2 | ⟨g, cap, cur, rfl, hg, hh, r⟩
  · exact .inl h2
  · exact .inr ⟨g, cap, cur, rfl, hg, (hm g (by simp [Value.ownBlock])).trans hh, r⟩
theorem OwnF.low {w' : World} {B : Nat} {E : TypeId} {sz : Nat} {v : Value} {n : Nat} {cs : List Value} (h : OwnF w B E sz v n cs) (k : Low w w') : OwnF w' B E sz v n cs := h.keep fun j hj => k.block j (h.block j hj).2.1
theorem OwnF.upd {w' : World} {B g : Nat} {E T : TypeId} {sz : Nat} {v : Value} {n : Nat} {cs : List Value} {ds : Array Value} (h : OwnF w B E sz v n cs) (u : Upd g w w') (hg : w.heap[g]? = some (.cells ds T)) (hT : Nat.beq T E = false) : OwnF w' B E sz v n cs := h.keep fun k hk => u.block k fun e => by
  subst e
  obtain ⟨_, _, cur, fz, h2⟩ := h.block k hk
  rw [hg] at h2
  simp only [Option.some.injEq, Obj.cells.injEq] at h2
  obtain ⟨_, rfl, _⟩ := h2
  simp at hT
theorem OwnF.base {B B' : Nat} {E : TypeId} {sz : Nat} {v : Value} {n : Nat} {cs : List Value} (h : OwnF w B' E sz v n cs) (hB : B ≤ B') : OwnF w B E sz v n cs := by
  refine ⟨h.1, ?_⟩
  rcases h.2 with h2 | ⟨g, cap, cur, rfl, hg, r⟩
  · exact .inl h2
  · exact .inr ⟨g, cap, cur, rfl, Nat.le_trans hB hg, r⟩
theorem OwnF.rd {B : Nat} {E : TypeId} {sz : Nat} {v : Value} {n : Nat} {cs : List Value} (h : OwnF w B E sz v n cs) : RdF w sz v n cs := by
  have h0 := h
  refine ⟨h.1, ?_⟩
  rcases h.2 with ⟨rfl, rfl⟩ | ⟨g, cap, cur, rfl, hg, hh, hc, _⟩
  · exact ⟨none, 0, rfl, Nat.le_refl _, fun h => absurd h (by simp)⟩
  · exact ⟨_, cap, rfl, hc, fun _ => ⟨g, 0, rfl, heap_lt hh, fun j u hu => by
      have := World.ownsRow.cells h0 (g := g) (by simp [Value.ownBlock]) j u hu
      rw [Addr.add_mid] at this
      exact this⟩⟩
theorem RdF.one {sz : Nat} {v : Value} {n : Nat} {cs : List Value} (h : RdF w sz v n cs) : v.oneCell' = true := by
  obtain ⟨_, A, cap, rfl, _⟩ := h
  rfl
theorem OwnF.cast {B : Nat} {E : TypeId} {sz : Nat} {v : Value} {n n' : Nat} {cs cs' : List Value} (h : OwnF w B E sz v n cs) (e : n = n') (e' : cs = cs') : OwnF w B E sz v n' cs' := e ▸ e' ▸ h
/-- another row of the call's own, of other elements, has grown -/
theorem OwnF.grw {B B' : Nat} {E E' : TypeId} {sz : Nat} {v u : Value} {n : Nat} {cs : List Value} {w' : World} (h : OwnF w B E sz v n cs) (g : GrW B' E' u w w') (hE : Nat.beq E' E = false) : OwnF w' B E sz v n cs := h.keep fun k hk => by
  obtain ⟨_, hlt, cur, fz, h2⟩ := h.block k hk
  refine g.block k hlt fun e => ?_
  obtain ⟨_, cur', fz', h3⟩ := g.old k e
  rw [h3] at h2
  simp only [Option.some.injEq, Obj.cells.injEq] at h2
  obtain ⟨_, rfl, _⟩ := h2
  simp at hE
theorem q_lenF {c : Call} {T e : TypeId} {x : Operand} {v : Value} {n sz : Nat} {cs : List Value} (ho : o.op = .call c) (hc : c = { callee := .builtin .len, args := #[x], argTypes := #[T] }) (hT : P.underlying T = some (.slice e)) (hx : a.eval x = v) {w0 : World} (hv : RdF w0 sz v n cs) (hn : K (a.put o.dst (.int .i64 (n : Int)))) : o.quiet P a C K := by
  obtain ⟨_, A, cap, rfl, _⟩ := hv
  exact q_lenL ho hc hT hx hn
theorem q_idxF {T E : TypeId} {x ix : Operand} {v : Value} {n sz j : Nat} {cs : List Value} (ho : o.op = .indexAddr T x ix) (hT : P.underlying T = some (.slice E)) (hE : (P.info? E).map (·.size) = some sz) (hx : a.eval x = v) {w0 : World} (hv : RdF w0 sz v n cs) (hi : a.eval ix = .int .i64 (j : Int)) (hj : j < n) (hn : K (a.put o.dst (pAt v (j * sz)))) : o.quiet P a C K := by
  obtain ⟨_, A, cap, rfl, hc, h2⟩ := hv
  obtain ⟨g, i, rfl, _⟩ := h2 (by omega)
  rw [pAt_mid] at hn
  exact q_val _ (fun w _ => by
    have hs : (sizeOf E).run P w = .ok sz w := by
      cases hq : P.info? E with
      | none => simp [hq] at hE
      | some i => simp [hq] at hE; simp [sizeOf, typeInfo, hq, hE]
    unfold execOp
    simp [ho, hx, hi, Instr.indexAt, asIntOf, Sem.run_bind, run_underlying hT w, Instr.sureAddr, hs, hj, Addr.add_mid]) hn
theorem q_fldF {S : TypeId} {x : Operand} {k f : Nat} {v : Value} (c' : Nat) (ho : o.op = .fieldAddr S x f) (hS : ∀ p : Addr, ∀ w, (Instr.fieldAt S (.pointer (some p)) f).run P w = .ok (.pointer (some (p.add c'))) w) (hx : a.eval x = pAt v k) (hv : ∃ g i n cap, v = .slice (some ⟨g, i, none⟩) n cap) (hn : K (a.put o.dst (pAt v (k + c')))) : o.quiet P a C K := by
  obtain ⟨g, i, n, cap, rfl⟩ := hv
  rw [pAt_mid] at hx hn
  exact q_val _ (fun w _ => by
    have h := hS ⟨g, i + k, none⟩ w
    rw [Addr.add_mid, Nat.add_assoc] at h
    unfold execOp
    simp only [ho, hx, Sem.run_bind, h, Result.andThen_ok, Sem.run_pure]) hn
theorem RdF.form {sz : Nat} {v : Value} {n : Nat} {cs : List Value} (h : RdF w sz v n cs) (hp : 0 < n) : ∃ g i n cap, v = .slice (some ⟨g, i, none⟩) n cap := by
  obtain ⟨_, A, cap, rfl, hc, h2⟩ := h
  obtain ⟨g, i, rfl, _⟩ := h2 hp
  exact ⟨g, i, _, _, rfl⟩
/-- one cell read -/
theorem q_ld1 {T : TypeId} {x : Operand} {v u : Value} {n sz k : Nat} {cs : List Value} {d : TypeDesc} (ho : o.op = .load T x) (hT : P.underlying T = some d) (hd : (match d with | .int _ | .string | .bool | .slice _ => true | _ => false) = true) (hx : a.eval x = pAt v k) (hv : ∀ w, C w → RdF w sz v n cs) (hp : 0 < n) (hu : cs[k]? = some u) (hn : K (a.put o.dst u)) : o.quiet P a C K :=
  q_val _ (fun w hw => by
    obtain ⟨_, A, cap, rfl, hc, h2⟩ := hv w hw
    obtain ⟨g, i, rfl, _, h3⟩ := h2 hp
    have hcell := h3 k u hu
    rw [pAt_mid] at hx
    have hl : (loadVar T ⟨g, i + k, none⟩).run P w = .ok u w := by
      cases d <;> first | (cases hd; done) | simp [loadVar, isAgg, Sem.run_bind, run_underlying hT w, hcell, load, Sem.run]
    unfold execOp
    simp only [ho, hx, Instr.loadAt, Instr.sureAddr, Sem.run_bind, Sem.run_pure, Result.andThen_ok, hl]) hn
/-- a whole record read -/
theorem q_ldR {T : TypeId} {x : Operand} {v : Value} {n sz k : Nat} {cs vs : List Value} {d : TypeDesc} (ho : o.op = .load T x) (hT : P.underlying T = some d) (hd : d.isRow = true) (hi : (P.info? T).map (·.size) = some sz) (hx : a.eval x = pAt v k) (hv : ∀ w, C w → RdF w sz v n cs) (hp : 0 < n) (hl : vs.length = sz) (hu : (cs.drop k).take sz = vs) (hn : K (a.put o.dst (.agg vs.toArray))) : o.quiet P a C K :=
  q_val _ (fun w hw => by
    obtain ⟨_, A, cap, rfl, hc, h2⟩ := hv w hw
    obtain ⟨g, i, rfl, _, h3⟩ := h2 hp
    rw [pAt_mid] at hx
    have hr : w.rangeAt g (i + k) vs := fun j u hj => by
      have hlt : j < sz := by have := (List.getElem?_eq_some_iff.1 hj).1; omega
      rw [← hu, List.getElem?_take, if_pos hlt, List.getElem?_drop] at hj
      rw [Nat.add_assoc]
      exact h3 (k + j) u hj
    have := run_loadAt_mid w g (i + k) T vs d hr hT hd (by rw [hi, hl])
    unfold execOp
    simp only [ho, hx, Sem.run_bind, this, Result.andThen_ok, Sem.run_pure]) hn
def recB (P : Program) (E : TypeId) (sz : Nat) : Bool := match P.info? E with
  | some i => i.size == sz && decide (i.bytes ≤ 1024) && (match i.zero with | some z => z.cells.size == sz | none => false)
  | none => false
theorem recB_spec {E : TypeId} {sz : Nat} (h : recB P E sz = true) : ∃ i z, P.info? E = some i ∧ i.zero = some z ∧ i.size = sz ∧ i.bytes ≤ 1024 ∧ z.cells.size = sz := by
  unfold recB at h
  split at h
  · rename_i i hi
    simp only [Bool.and_eq_true, beq_iff_eq, decide_eq_true_eq] at h
    have h2 := h.2
    split at h2
    · rename_i z hz; exact ⟨i, z, hi, hz, h.1.1, h.1.2, by simpa using h2⟩
    · cases h2
  · cases h
theorem fill_rec {cells : Array Value} {sz : Nat} {v : Value} (h : v.cells.size = sz) (hc : cells.size = sz) : Instr.fill (fun i => some (i * sz, sz)) cells [(0, v)] = some v.cells := by
  simp only [Instr.fill]
  rw [if_neg (by simp [h, hc])]
  congr 1
  apply Array.toList_inj.1
  rw [← Array.foldl_toList, Array.toList_zipIdx]
  have := fold_set (0 * sz) v.cells.toList 0 cells (by simp [h, hc])
  refine this.trans ?_
  simp [h, hc]
/-- a literal of one record -/
theorem l_buildF {E t : TypeId} {sz : Nat} {x : Operand} {v : Value} {vs : List Value} (hg : o.guard = none) (ho : o.op = .buildSlice t 1 #[(0, x)]) (ht : P.underlying t = some (.slice E)) (hE : recB P E sz = true) (hx : a.eval x = v) (hv : v.cells = vs.toArray) (hl : vs.length = sz) (hp : 0 < sz) (hm : sz ≤ 1000)
    (h : ∀ g w', w.heap.size ≤ g → w'.heap[g]? = some (.cells vs.toArray E) → Low w w' → wpList P ops Q rest (a.put o.dst (.slice (some ⟨g, 0, none⟩) 1 1)) w') : wpList P ops Q (o :: rest) a w := by
  obtain ⟨i, z, hi, hz, h1, h2, h3⟩ := recB_spec hE
  refine wpList_plain hg fun K hK => ?_
  have hrun : (execOp a.eval o).run P w = .ok (.value (.slice (some ⟨w.heap.size, 0, none⟩) 1 1)) (w.alloc (.cells vs.toArray E)) := by
    have hf := fill_rec (v := v) (sz := sz) (cells := (Array.range sz).map (z.cells[· % z.cells.size]!)) (by rw [hv]; simpa using hl) (by simp)
    rw [hv] at hf
    unfold execOp
    simp [ho, hx, Instr.buildSlice, Sem.run_bind, run_underlying ht w, sizeOf, typeInfo, zeroValue, hi, h1, hz, run_newRow, hf]
    rw [if_neg (by omega), if_neg (by omega)]
  unfold Oper.wp
  rw [hrun]
  exact hK _ _ (h _ _ (Nat.le_refl _) (new_block _ _) (low_new _ _))
/-- append(s, x): the row of x is one of the call's -/
theorem l_appF {B : Nat} {E t : TypeId} {sz : Nat} {s x : Operand} {v : Value} {n : Nat} {cs vs : List Value} {g : Nat} (hg : o.guard = none) (ho : o.op = .call { callee := .builtin .append, args := #[s, x], argTypes := #[t, t] })
    (ht : P.underlying t = some (.slice E)) (hE : recB P E sz = true) (hs : a.eval s = v) (hx : a.eval x = .slice (some ⟨g, 0, none⟩) 1 1) (hb : w.heap[g]? = some (.cells vs.toArray E)) (hl : vs.length = sz) (hp : 0 < sz) (h1 : vs.all (·.oneCell') = true)
    (hv : OwnF w B E sz v n cs) (hB : B ≤ w.heap.size) (hbd : n ≤ 1000000)
    (h : ∀ v' w', OwnF w' B E sz v' (n + 1) (cs ++ vs) → GrW B E v w w' → wpList P ops Q rest (a.put o.dst v') w') : wpList P ops Q (o :: rest) a w := by
  obtain ⟨i, z, hi, hz, h2, h3, h4⟩ := recB_spec hE
  obtain ⟨v', w', hrun, r1, r2, _⟩ := run_append_own (P := P) (w := w) B t o.type E i z sz i.bytes ht hi hz h2 rfl h4 hp v n cs hv ⟨g, 0, none⟩ 1 1 vs (by simp [hl]) (fun j u hu => by
    rw [Addr.add_mid, Nat.zero_add, cells_at hb j]
    simpa using hu) (fun u hu => List.all_eq_true.1 h1 u hu) (by simp only [maxLen]; omega) (Nat.le_trans (Nat.mul_le_mul_left (n + 1) h3) (by omega)) hB
  refine wpList_plain hg fun K hK => ?_
  have hrun' : (execOp a.eval o).run P w = .ok (.value v') w' := by
    unfold execOp
    simp [ho, resolve, invoke, builtin, hs, hx, hrun]
  unfold Oper.wp
  rw [hrun']
  refine hK _ _ (h _ _ r1 ⟨r2.os, r2.tape, r2.output, r2.size, fun k hk hne => r2.block k hk (fun e => hne e.symm), fun k hk => ⟨(OwnF.block hv k hk).1, (OwnF.block hv k hk).2.2⟩⟩)
theorem flat_len {α : Type} {enc : α → List Value} {sz : Nat} (he : ∀ x, (enc x).length = sz) : ∀ L : List α, (L.map enc).flatten.length = L.length * sz
  | [] => by simp
  | x :: L => by
    rw [List.map_cons, List.flatten_cons, List.length_append, he, flat_len he L, List.length_cons, Nat.add_mul, Nat.one_mul, Nat.add_comm]
theorem flat_at {α : Type} {enc : α → List Value} {sz : Nat} (he : ∀ x, (enc x).length = sz) (d : α) : ∀ (L : List α) (j k : Nat), j < L.length → k < sz → (L.map enc).flatten[j * sz + k]? = (enc (L.getD j d))[k]?
  | [], j, _, h, _ => absurd h (by simp)
  | x :: L, 0, k, _, hk => by
    rw [List.map_cons, List.flatten_cons, Nat.zero_mul, Nat.zero_add, List.getElem?_append_left (by rw [he]; exact hk)]
    rfl
  | x :: L, j + 1, k, h, hk => by
    rw [List.map_cons, List.flatten_cons, List.getElem?_append_right (by rw [he, Nat.add_mul]; omega), he, show (j + 1) * sz + k - sz = j * sz + k by rw [Nat.add_mul]; omega, flat_at he d L j k (by simpa using h) hk]
    rfl
theorem flat_part {α : Type} {enc : α → List Value} {sz : Nat} (he : ∀ x, (enc x).length = sz) (d : α) (L : List α) (j : Nat) (hj : j < L.length) : ((L.map enc).flatten.drop (j * sz)).take sz = enc (L.getD j d) := by
  apply List.ext_getElem?
  intro k
  rw [List.getElem?_take]
  by_cases hk : k < sz
  · rw [if_pos hk, List.getElem?_drop, flat_at he d L j k hj hk]
  · rw [if_neg hk, List.getElem?_eq_none (by rw [he]; omega)]
theorem flat_snoc {α : Type} {enc : α → List Value} (L : List α) (x : α) : (L.map enc).flatten ++ enc x = ((L ++ [x]).map enc).flatten := by simp
theorem flat_drop {α : Type} {enc : α → List Value} {sz : Nat} (he : ∀ x, (enc x).length = sz) : ∀ (L : List α) (j : Nat), j ≤ L.length → (L.map enc).flatten.drop (j * sz) = ((L.drop j).map enc).flatten
  | L, 0, _ => by simp
  | [], j + 1, h => absurd h (by simp)
  | x :: L, j + 1, h => by
    rw [List.map_cons, List.flatten_cons, List.drop_append, List.drop_eq_nil_of_le (by rw [he, Nat.add_mul]; omega), List.nil_append, he, show (j + 1) * sz - sz = j * sz by rw [Nat.add_mul]; omega, List.drop_succ_cons, flat_drop he L j (by simpa using h)]
end
end Go.Proofs.YtnhchnlgleokoaaDoor.Q
end
/-! Q14 -/
section
namespace Go.Proofs.YtnhchnlgleokoaaDoor.Q
open Go.RowKit
section
variable {P : Program} {Q : Exit → Act → World → Prop} {a : Act} {w : World} {o : Oper} {ops : Array Oper} {rest : List Oper} {K : Act → Prop} {C : World → Prop}
end
end Go.Proofs.YtnhchnlgleokoaaDoor.Q
end
/-! Q15 -/
section
namespace Go.Proofs.YtnhchnlgleokoaaDoor.Q
open Go.RowKit Go.Sort
section
variable {P : Program} {w : World}
end
end Go.Proofs.YtnhchnlgleokoaaDoor.Q
end
/-! Q16 -/
section
namespace Go.Proofs.YtnhchnlgleokoaaDoor.Q
open Go.RowKit
section
variable {P : Program} {Q : Exit → Act → World → Prop} {a : Act} {w : World} {o : Oper} {ops : Array Oper} {rest : List Oper} {K : Act → Prop} {C : World → Prop}
/-- append(s, xs...) over a row of the call's own -/
theorem app_run {B : Nat} {E t ty : TypeId} {sz : Nat} {v x : Value} {n m : Nat} {cs ds : List Value} (ht : P.underlying t = some (.slice E)) (hE : recB P E sz = true) (hp : 0 < sz) (hx : RdF w sz x m ds) (h1 : ∀ u ∈ ds, u.oneCell' = true)
    (hv : OwnF w B E sz v n cs) (hB : B ≤ w.heap.size) (hbd : n + m ≤ 1000000) :
    ∃ v' w', (Builtin.append_ #[t, t] ty #[v, x]).run P w = .ok v' w' ∧ OwnF w' B E sz v' (n + m) (cs ++ ds) ∧ GrW B E v w w' ∧ (v'.ownBlock = v.ownBlock ∨ v'.ownBlock = some w.heap.size) := by
  obtain ⟨i, z, hi, hz, h2, h3, h4⟩ := recB_spec hE
  obtain ⟨hl, A, cap, rfl, hc, h5⟩ := hx
  rcases Nat.eq_zero_or_pos m with h0 | h0
  · subst h0
    have hd : ds = [] := List.eq_nil_of_length_eq_zero (by simpa using hl)
    subst hd
    have hfc : ∀ w, (Builtin.firstCells sz 0 (.slice A 0 cap)).run P w = .ok #[] w := by
      intro w
      cases A with
      | none => simp [Builtin.firstCells]
      | some ad => simp [Builtin.firstCells, loadCells, loadCellsFrom]
    refine ⟨v, w, ?_, by simpa using hv, ⟨rfl, rfl, rfl, Nat.le_refl _, fun _ _ _ => rfl, fun k hk => ⟨(OwnF.block hv k hk).1, (OwnF.block hv k hk).2.2⟩⟩, .inl rfl⟩
    rcases hv.2 with ⟨rfl, rfl⟩ | ⟨g, c2, cur, rfl, hg, hh, hn, hm, _⟩
    · simp [Builtin.append_, run_underlying ht, sizeOf, typeInfo, hi, h2, Builtin.lenOf, hfc]
    · simp [Builtin.append_, run_underlying ht, sizeOf, typeInfo, hi, h2, Builtin.lenOf, hfc, hn, storeCells]
  · obtain ⟨g, j, rfl, hg, h6⟩ := h5 h0
    obtain ⟨v', w', hrun, r1, r2, _, r3⟩ := run_append_own_at (P := P) (w := w) B t ty E i z sz i.bytes ht hi hz h2 rfl h4 hp v n cs hv ⟨g, j, none⟩ m cap ds hl (fun k u hu => by
      rw [Addr.add_mid]
      exact h6 k u hu) h1 (by simp only [maxLen]; omega) (Nat.le_trans (Nat.mul_le_mul_left (n + m) h3) (by omega)) hB
    exact ⟨v', w', hrun, r1, ⟨r2.os, r2.tape, r2.output, r2.size, fun k hk hne => r2.block k hk (fun e => hne e.symm), fun k hk => ⟨(OwnF.block hv k hk).1, (OwnF.block hv k hk).2.2⟩⟩, r3⟩
theorem l_appFs {B : Nat} {E t : TypeId} {sz : Nat} {s x : Operand} {v y : Value} {n m : Nat} {cs ds : List Value} (hg : o.guard = none) (ho : o.op = .call { callee := .builtin .append, args := #[s, x], argTypes := #[t, t] })
    (ht : P.underlying t = some (.slice E)) (hE : recB P E sz = true) (hp : 0 < sz) (hs : a.eval s = v) (hx : a.eval x = y) (hy : RdF w sz y m ds) (h1 : ∀ u ∈ ds, u.oneCell' = true)
    (hv : OwnF w B E sz v n cs) (hB : B ≤ w.heap.size) (hbd : n + m ≤ 1000000)
    (h : ∀ v' w', OwnF w' B E sz v' (n + m) (cs ++ ds) → GrW B E v w w' → wpList P ops Q rest (a.put o.dst v') w') : wpList P ops Q (o :: rest) a w := by
  obtain ⟨v', w', hrun, r1, r2, _⟩ := app_run (ty := o.type) ht hE hp hy h1 hv hB hbd
  refine wpList_plain hg fun K hK => ?_
  have hrun' : (execOp a.eval o).run P w = .ok (.value v') w' := by
    unfold execOp
    simp [ho, resolve, invoke, builtin, hs, hx, hrun]
  unfold Oper.wp
  rw [hrun']
  exact hK _ _ (h _ _ r1 r2)
def cutF (v : Value) (i sz : Nat) : Value := match v with
  | .slice A n cap => .slice (if cap = i then A else A.map (·.add (i * sz))) (n - i) (cap - i)
  | _ => v
def headF (v : Value) (i : Nat) : Value := match v with
  | .slice A _ cap => .slice (if cap = 0 then A else A.map (·.add 0)) i cap
  | _ => v
theorem RdF.cut {sz : Nat} {v : Value} {n : Nat} {cs : List Value} (h : RdF w sz v n cs) (i : Nat) (hi : i ≤ n) : RdF w sz (cutF v i sz) (n - i) (cs.drop (i * sz)) := by
  obtain ⟨hl, A, cap, rfl, hc, h2⟩ := h
  refine ⟨by rw [List.length_drop, hl, Nat.sub_mul], _, cap - i, rfl, by omega, fun hp => ?_⟩
  obtain ⟨g, k, rfl, hg, h3⟩ := h2 (by omega)
  refine ⟨g, k + i * sz, by rw [if_neg (by omega), Option.map_some, Addr.add_mid], hg, fun j u hu => ?_⟩
  rw [List.getElem?_drop] at hu
  rw [Nat.add_assoc]
  exact h3 _ u hu
theorem RdF.head {sz : Nat} {v : Value} {n : Nat} {cs : List Value} (h : RdF w sz v n cs) (i : Nat) (hi : i ≤ n) : RdF w sz (headF v i) i (cs.take (i * sz)) := by
  obtain ⟨hl, A, cap, rfl, hc, h2⟩ := h
  refine ⟨by rw [List.length_take, hl]; exact Nat.min_eq_left (Nat.mul_le_mul_right _ hi), _, cap, rfl, by omega, fun hp => ?_⟩
  obtain ⟨g, k, rfl, hg, h3⟩ := h2 (by omega)
  refine ⟨g, k, by rw [if_neg (by omega), Option.map_some, Addr.add_mid, Nat.add_zero], hg, fun j u hu => ?_⟩
  rw [List.getElem?_take] at hu
  split at hu
  · exact h3 _ u hu
  · cases hu
theorem run_sz {E : TypeId} {sz : Nat} (hE : (P.info? E).map (·.size) = some sz) (w : World) : (sizeOf E).run P w = .ok sz w := by
  obtain ⟨i, hi, hs⟩ := Option.map_eq_some_iff.1 hE
  simp [sizeOf, typeInfo, hi, hs]
theorem q_cutF {T E : TypeId} {sz : Nat} {x lo : Operand} {v : Value} {n i : Nat} {cs : List Value} (ho : o.op = .slice T x (some lo) none none) (hT : P.underlying T = some (.slice E)) (hE : (P.info? E).map (·.size) = some sz) (hx : a.eval x = v) (hl : a.eval lo = .int .i64 (i : Int)) {w0 : World} (hv : RdF w0 sz v n cs) (hi : i ≤ n) (hn : K (a.put o.dst (cutF v i sz))) : o.quiet P a C K :=
  q_val _ (fun w _ => by
    obtain ⟨_, A, cap, rfl, h1, _⟩ := hv
    unfold execOp
    have hs := run_sz hE w
    simp [ho, hx, hl, Instr.sliceAt, Instr.slice, Instr.sliceBounds, Instr.sliceBound, asIntOf, Sem.run_bind, run_underlying hT w, hi, hs, cutF]) hn
def lessB (s t : ByteArray) : Bool := Op.bytesLess s.toList t.toList
theorem q_strlss {T T' : TypeId} {x y : Operand} {s t : ByteArray} (b : Bool) (ho : o.op = .binOp .lss T x y T') (hx : a.eval x = .string s) (hy : a.eval y = .string t) (hb : lessB s t = b) (hn : K (a.put o.dst (.bool b))) : o.quiet P a C K :=
  q_val _ (fun w _ => by
    unfold execOp
    unfold lessB at hb
    simp only [ho, hx, hy, eqGuard, binOp, Op.stringOp, hb]
    rfl) hn
theorem q_strleq {T T' : TypeId} {x y : Operand} {s t : ByteArray} (b : Bool) (ho : o.op = .binOp .leq T x y T') (hx : a.eval x = .string s) (hy : a.eval y = .string t) (hb : (lessB s t || s.toList == t.toList) = b) (hn : K (a.put o.dst (.bool b))) : o.quiet P a C K :=
  q_val _ (fun w _ => by
    unfold execOp
    unfold lessB at hb
    simp only [ho, hx, hy, eqGuard, binOp, Op.stringOp, hb]
    rfl) hn
abbrev nilS : Value := .slice none 0 0
end
end Go.Proofs.YtnhchnlgleokoaaDoor.Q
end
/-! Q17 -/
section
namespace Go.Proofs.YtnhchnlgleokoaaDoor.Q
open Go.RowKit
set_option linter.unusedSimpArgs false
set_option linter.unusedVariables false
section
variable {P : Program} {Q : Exit → Act → World → Prop} {a : Act} {w : World} {o : Oper} {ops : Array Oper} {rest : List Oper}
structure InvJ (l : List Oper) (n : Nat) (J : Array Bool → Act → World → Prop) (L : Array Bool) (a : Act) (w : World) : Prop where
  inv : J L a w
  shut : ∀ j o, l[j]? = some o → Has L j → ∀ e ∈ o.after, Region.binds .any e = true → Has L e.on
  tail : ∀ t, n ≤ t → t < l.length → ¬ Has L t
def oAt : List (Option Value) → Nat → Option Value
  | [], _ => none
  | s :: _, 0 => s
  | _ :: l, j + 1 => oAt l j
structure InsJ (l : List Oper) (n : Nat) (vs : List (Option Value)) (N : Nat) (a0 : Act) (W : World) (E : TypeId) (sz e0 d0 e4 d4 e6 d6 e7 d7 e9 d9 m1 m2 : Nat) (c1 xs c2 : List Value) (L : Array Bool) (a : Act) (w : World) : Prop where
  fr : Fr N a
  low : Low W w
  keep : ∀ t u, notDst (l.take n) t = true → At a0 t u → At a t u
  free : ∀ i v d, oAt vs i = some v → dstAt (l.take n) i = some d → Has L i → At a d v
  eff : ∃ v0 v4 g v7 v9, (Has L e0 → At a d0 v0) ∧ (Has L e4 → At a d4 v4) ∧ (Has L e6 → At a d6 (.slice (some ⟨g, 0, none⟩) 1 1)) ∧ (Has L e7 → At a d7 v7) ∧ (Has L e9 → At a d9 v9) ∧
    (Has L e0 → ¬ Has L e4 → OwnF w W.heap.size E sz v0 0 []) ∧ (Has L e4 → ¬ Has L e7 → OwnF w W.heap.size E sz v4 m1 c1) ∧ (Has L e6 → ¬ Has L e7 → w.heap[g]? = some (.cells xs.toArray E)) ∧
    (Has L e7 → ¬ Has L e9 → OwnF w W.heap.size E sz v7 (m1 + 1) (c1 ++ xs)) ∧ (Has L e9 → OwnF w W.heap.size E sz v9 (m1 + 1 + m2) (c1 ++ xs ++ c2)) ∧
    (Has L e0 → ¬ Has L e4 → Has L e6 → v0.ownBlock ≠ some g) ∧ (Has L e4 → Has L e6 → ¬ Has L e7 → v4.ownBlock ≠ some g)
theorem OwnF.own_lt {B : Nat} {E : TypeId} {sz : Nat} {v : Value} {n : Nat} {cs : List Value} (h : OwnF w B E sz v n cs) {k : Nat} (hk : v.ownBlock = some k) : k < w.heap.size := (h.block k hk).2.1
theorem run_app1 {B : Nat} {E t ty : TypeId} {sz : Nat} {v : Value} {n g : Nat} {cs xs : List Value} (ht : P.underlying t = some (.slice E)) (hE : recB P E sz = true) (hp : 0 < sz) (hb : w.heap[g]? = some (.cells xs.toArray E)) (hl : xs.length = sz) (h1 : ∀ u ∈ xs, u.oneCell' = true)
    (hv : OwnF w B E sz v n cs) (hB : B ≤ w.heap.size) (hbd : n + 1 ≤ 1000000) :
    ∃ v' w', (Builtin.append_ #[t, t] ty #[v, .slice (some ⟨g, 0, none⟩) 1 1]).run P w = .ok v' w' ∧ OwnF w' B E sz v' (n + 1) (cs ++ xs) ∧ GrW B E v w w' ∧ (v'.ownBlock = v.ownBlock ∨ v'.ownBlock = some w.heap.size) :=
  app_run ht hE hp ⟨by omega, _, 1, rfl, Nat.le_refl _, fun _ => ⟨g, 0, rfl, heap_lt hb, fun j u hu => by
    rw [Nat.zero_add, cells_at hb j]
    simpa using hu⟩⟩ h1 hv hB hbd
theorem run_empty {E t : TypeId} {sz : Nat} (ht : P.underlying t = some (.slice E)) (hE : recB P E sz = true) (w : World) : (Instr.buildSlice t 0 #[]).run P w = .ok (.slice (some ⟨w.heap.size, 0, none⟩) 0 0) (w.alloc (.cells #[] E)) := by
  obtain ⟨i, z, hi, hz, h1, _⟩ := recB_spec hE
  simp [Instr.buildSlice, Sem.run_bind, run_underlying ht w, sizeOf, typeInfo, hi, h1, run_newRow, Instr.fill]
  rw [show Array.range 0 = #[] from by decide]
  simp
end
end Go.Proofs.YtnhchnlgleokoaaDoor.Q
end
/-! WEqStruct -/
section
namespace Go.Proofs.YtnhchnlgleokoaaDoorW.PrintWords
open Go.RowKit
section
variable {P : Program} {d : Nat} {xs ys : Array Value} {f : Field} {fs : List Field} {a b : Value} {r s : Bool} {w : World}
/-- The last field that counts. -/
theorem eqf_last (hn : (f.name == "_") = false) (ha : (part f.type xs f.offset).run P w = .ok a w) (hb : (part f.type ys f.offset).run P w = .ok b w) (he : (Op.equalIn d f.type a b).run P w = .ok r w) : (Op.eqFields d xs ys [f]).run P w = .ok r w := by
  have hn' : f.name ≠ "_" := by simpa using hn
  simp only [Op.eqFields, if_pos hn', Sem.run_bind, ha, hb, he, Result.andThen_ok]
  cases r <;> simp
theorem eqf_cons (hn : (f.name == "_") = false) (ha : (part f.type xs f.offset).run P w = .ok a w) (hb : (part f.type ys f.offset).run P w = .ok b w) (he : (Op.equalIn d f.type a b).run P w = .ok r w) (hr : (Op.eqFields d xs ys fs).run P w = .ok s w) : (Op.eqFields d xs ys (f :: fs)).run P w = .ok (r && s) w := by
  have hn' : f.name ≠ "_" := by simpa using hn
  rw [Op.eqFields]
  simp only [if_pos hn', Sem.run_bind, ha, hb, he, Result.andThen_ok]
  cases r
  · simp
  · simpa using hr
theorem eqA_of {t : TypeId} {fs : Array Field} (hu : P.underlying t = some (.struct fs)) (hp : P.stoodInHeld t = false) (h : (Op.eqFields d xs ys fs.toList).run P w = .ok r w) : (Op.equalIn (d + 1) t (.agg xs) (.agg ys)).run P w = .ok r w := by
  have hf : P.fieldsOf t = fs := by simp [Program.fieldsOf, hu]
  rw [run_equalIn_struct (P := P) w d t xs ys (by rw [hf]; exact hu) hp, hf]
  exact h
end
end Go.Proofs.YtnhchnlgleokoaaDoorW.PrintWords
end
/-! Q18 -/
section
namespace Go.Proofs.YtnhchnlgleokoaaDoor.Q
open Go.RowKit Go.Proofs.YtnhchnlgleokoaaDoorW.PrintWords
set_option linter.unusedVariables false
set_option linter.unusedSimpArgs false
section
variable {P : Program} {Q : Exit → Act → World → Prop} {a : Act} {w : World} {o : Oper} {ops : Array Oper} {rest : List Oper} {K : Act → Prop} {C : World → Prop}
theorem q_ne3 {T T' : TypeId} {x y : Operand} {xs ys : Array Value} {r : Bool} (b : Bool) (ho : o.op = .binOp .neq T x y T') (hm : P.eqGuardType P.depth T = false) (hx : a.eval x = .agg xs) (hy : a.eval y = .agg ys) (h : ∀ w, (Op.equalIn 10000 T (.agg xs) (.agg ys)).run P w = .ok r w) (hb : (!r) = b) (hn : K (a.put o.dst (.bool b))) : o.quiet P a C K :=
  q_val _ (fun w _ => by
    have h1 := run_eqGuard_agg (P := P) w .neq T x y xs ys hm
    have h2 := run_neq_struct (P := P) w T xs ys
    unfold execOp
    simp only [ho, hx, hy, Sem.run_bind, h1, Result.andThen_ok, h2, h w, Sem.run_pure, hb]) hn
theorem parts2 {i j : Nat} {x y : Operand} {u v : Value} (hx : a.eval x = u) (hy : a.eval y = v) : (#[(i, x), (j, y)] : Array (Nat × Operand)).map (fun (i, x) => (i, a.eval x)) = #[(i, u), (j, v)] := by simp [hx, hy]
end
section
variable {P : Program}
theorem OwnF.castL {α : Type} {enc : α → List Value} {B : Nat} {E : TypeId} {sz : Nat} {v : Value} {l l' : List α} {w : World} (h : OwnF w B E sz v l.length (l.map enc).flatten) (e : l = l') : OwnF w B E sz v l'.length (l'.map enc).flatten := e ▸ h
theorem RdF.castL {α : Type} {enc : α → List Value} {sz : Nat} {v : Value} {l l' : List α} {w : World} (h : RdF w sz v l.length (l.map enc).flatten) (e : l = l') : RdF w sz v l'.length (l'.map enc).flatten := e ▸ h
theorem flat_take {α : Type} {enc : α → List Value} {sz : Nat} (he : ∀ x, (enc x).length = sz) : ∀ (L : List α) (j : Nat), j ≤ L.length → (L.map enc).flatten.take (j * sz) = ((L.take j).map enc).flatten
  | L, 0, _ => by simp
  | [], j + 1, h => absurd h (by simp)
  | x :: L, j + 1, h => by
    rw [List.map_cons, List.flatten_cons, List.take_append, List.take_of_length_le (by rw [he, Nat.add_mul]; omega), he, show (j + 1) * sz - sz = j * sz by rw [Nat.add_mul]; omega, List.take_succ_cons, List.map_cons, List.flatten_cons, flat_take he L j (by simpa using h)]
theorem flat_one {α : Type} {enc : α → List Value} (h : ∀ x, ∀ u ∈ enc x, u.oneCell' = true) (L : List α) : ∀ u ∈ (L.map enc).flatten, u.oneCell' = true := by
  intro u hu
  obtain ⟨c, hc, hu⟩ := List.mem_flatten.1 hu
  obtain ⟨x, _, rfl⟩ := List.mem_map.1 hc
  exact h x u hu
end
end Go.Proofs.YtnhchnlgleokoaaDoor.Q
end
/-! Q19 -/
section
namespace Go.Proofs.YtnhchnlgleokoaaDoor.Q
open Go.RowKit
set_option linter.unusedVariables false
set_option linter.unusedSimpArgs false
section
variable {P : Program} {Q : Exit → Act → World → Prop} {a : Act} {w : World} {o : Oper} {ops : Array Oper} {rest : List Oper}
theorem GrW.blka {B : Nat} {E : TypeId} {v : Value} {w' : World} (h : GrW B E v w w') {g : Nat} {o : Obj} (hg : w.heap[g]? = some o) (hl : ∀ k, v.ownBlock = some k → k ≠ g) : w'.heap[g]? = some o := (h.block g (heap_lt hg) fun e => hl g e rfl).trans hg
theorem l_appFo {B : Nat} {E t : TypeId} {sz : Nat} {s x : Operand} {v : Value} {n : Nat} {cs vs : List Value} {g : Nat} (hg : o.guard = none) (ho : o.op = .call { callee := .builtin .append, args := #[s, x], argTypes := #[t, t] })
    (ht : P.underlying t = some (.slice E)) (hE : recB P E sz = true) (hs : a.eval s = v) (hx : a.eval x = .slice (some ⟨g, 0, none⟩) 1 1) (hb : w.heap[g]? = some (.cells vs.toArray E)) (hl : vs.length = sz) (hp : 0 < sz) (h1 : vs.all (·.oneCell') = true)
    (hv : OwnF w B E sz v n cs) (hB : B ≤ w.heap.size) (hbd : n + 1 ≤ 1000000)
    (h : ∀ v' w', OwnF w' B E sz v' (n + 1) (cs ++ vs) → GrW B E v w w' → (v'.ownBlock = v.ownBlock ∨ v'.ownBlock = some w.heap.size) → wpList P ops Q rest (a.put o.dst v') w') : wpList P ops Q (o :: rest) a w := by
  obtain ⟨v', w', hrun, r1, r2, r3⟩ := run_app1 (ty := o.type) ht hE hp hb hl (fun u hu => List.all_eq_true.1 h1 u hu) hv hB hbd
  refine wpList_plain hg fun K hK => ?_
  have hrun' : (execOp a.eval o).run P w = .ok (.value v') w' := by
    unfold execOp
    simp [ho, resolve, invoke, builtin, hs, hx, hrun]
  unfold Oper.wp
  rw [hrun']
  exact hK _ _ (h _ _ r1 r2 r3)
end
end Go.Proofs.YtnhchnlgleokoaaDoor.Q
end
/-! Q20 -/
section
namespace Go.Proofs.YtnhchnlgleokoaaDoor.Q
open Go.RowKit
section
variable {P : Program} {Q : Exit → Act → World → Prop} {a : Act} {w : World} {o : Oper} {ops : Array Oper} {rest : List Oper} {K : Act → Prop} {C : World → Prop}
theorem q_capL {c : Call} {T e : TypeId} {x : Operand} {A : Option Addr} {n cap : Nat} (ho : o.op = .call c) (hc : c = { callee := .builtin .cap, args := #[x], argTypes := #[T] }) (hT : P.underlying T = some (.slice e)) (hx : a.eval x = .slice A n cap) (hn : K (a.put o.dst (.int .i64 (cap : Int)))) : o.quiet P a C K :=
  q_val _ (fun w _ => by
    subst hc
    unfold execOp
    simp [ho, hx, resolve, invoke, builtin, Builtin.cap_, Sem.run_bind, run_underlying hT w, goInt]) hn
/-- s[:h], h up to the capacity -/
theorem q_moreF {T E : TypeId} {sz : Nat} {x hi : Operand} {A : Option Addr} {n cap h : Nat} (ho : o.op = .slice T x none (some hi) none) (hT : P.underlying T = some (.slice E)) (hE : (P.info? E).map (·.size) = some sz) (hx : a.eval x = .slice A n cap) (hh : a.eval hi = .int .i64 (h : Int)) (hic : h ≤ cap) (hn : K (a.put o.dst (headF (.slice A n cap) h))) : o.quiet P a C K :=
  q_val _ (fun w _ => by
    unfold execOp
    have hs := run_sz hE w
    simp [ho, hx, hh, Instr.sliceAt, Instr.slice, Instr.sliceBounds, Instr.sliceBound, asIntOf, Sem.run_bind, run_underlying hT w, hic, hs, headF]) hn
theorem q_midF {T E : TypeId} {sz : Nat} {x lo hi : Operand} {A : Option Addr} {n cap l h : Nat} (ho : o.op = .slice T x (some lo) (some hi) none) (hT : P.underlying T = some (.slice E)) (hE : (P.info? E).map (·.size) = some sz) (hx : a.eval x = .slice A n cap) (hl : a.eval lo = .int .i64 (l : Int)) (hh : a.eval hi = .int .i64 (h : Int)) (hic : h ≤ cap) (hlh : l ≤ h) (hn : K (a.put o.dst (.slice (if cap = l then A else A.map (·.add (l * sz))) (h - l) (cap - l)))) : o.quiet P a C K :=
  q_val _ (fun w _ => by
    unfold execOp
    have hs := run_sz hE w
    simp [ho, hx, hl, hh, Instr.sliceAt, Instr.slice, Instr.sliceBounds, Instr.sliceBound, asIntOf, Sem.run_bind, run_underlying hT w, hic, hlh, hs]) hn
theorem q_maxF {T E : TypeId} {sz : Nat} {x lo hi mx : Operand} {A : Option Addr} {n cap l h m : Nat} (ho : o.op = .slice T x (some lo) (some hi) (some mx)) (hT : P.underlying T = some (.slice E)) (hE : (P.info? E).map (·.size) = some sz) (hx : a.eval x = .slice A n cap) (hl : a.eval lo = .int .i64 (l : Int)) (hh : a.eval hi = .int .i64 (h : Int)) (hm : a.eval mx = .int .i64 (m : Int)) (hmc : m ≤ cap) (hic : h ≤ m) (hlh : l ≤ h) (hn : ∀ u, K (a.put o.dst u)) : o.quiet P a C K :=
  q_val (.slice (if m = l then A else A.map (·.add (l * sz))) (h - l) (m - l)) (fun w _ => by
    unfold execOp
    have hs := run_sz hE w
    simp [ho, hx, hl, hh, hm, Instr.sliceAt, Instr.slice, Instr.sliceBounds, Instr.sliceBound, asIntOf, Sem.run_bind, run_underlying hT w, hmc, hic, hlh, hs]) (hn _)
/-- the model's overlaps at two blocks -/
theorem q_apart {c : Call} {f : FuncId} {fn : Func} {T U E : TypeId} {sz : Nat} {p q : Addr} {n cap m d : Nat} {tA tB : TypeId} {cA cB : Array Value} (ho : o.op = .call c) (hc : c.callee = .value (.func f)) (hf : P.funcs[f]? = some fn)
    (hname : (fn.name == "runtime.NumGoroutine") = false) (hb : fn.body.isNone = true) (hn : Extern.findNext fn = none) (he : Extern.find fn = some (Extern.SlicesOverlaps.overlaps #[T, T] #[U])) (hT : P.underlying T = some (.slice E)) (hE : (P.info? E).map (·.size) = some sz)
    (ha : c.args.map a.eval = #[.slice (some p) n cap, .slice (some q) m d]) (hpq : p.block ≠ q.block)
    (hA : ∀ w, C w → w.heap[p.block]? = some (.cells cA tA)) (hB : ∀ w, C w → w.heap[q.block]? = some (.cells cB tB)) (hk : cB.size ≠ 0) (hk' : K (a.put o.dst (.bool false))) : o.quiet P a C K :=
  q_val _ (fun w hw => by
    have h1 : w.frozen? p = false := by
      obtain ⟨b, i, s⟩ := p
      have := thawed (hA w hw) i
      simp only [World.frozen?] at this ⊢
      rw [hA w hw] at this ⊢
      simp
    have hr := run_callFunc_extern hf hname hb hn he #[.slice (some p) n cap, .slice (some q) m d] w
    rw [Lib.run_overlaps_apart w T U E hT sz (run_sz hE) p q n cap m d hpq tA tB cA.size cB.size (by simp [World.shape?, hA w hw]) (by simp [World.shape?, hB w hw]) hk h1 (thawed (hA w hw) _)] at hr
    unfold execOp
    have hpr : (program : Sem Program).run P w = .ok P w := rfl
    simp only [ho, resolve, hc, ha, Act.eval, Deferred.ofValue, invoke, Sem.run_bind, Sem.run_pure, Result.andThen_ok, Array.append_empty, Array.empty_append]
    rw [hr]
    rfl) hk'
theorem take_ow {α : Type} (D X : List α) (p q : Nat) (hp : p ≤ D.length) (h : p + X.length ≤ q) : (D.take p ++ X ++ D.drop (p + X.length)).take q = (D.take q).take p ++ X ++ (D.take q).drop (p + X.length) := by
  have hl : (D.take p ++ X).length = p + X.length := by rw [List.length_append, List.length_take, Nat.min_eq_left hp]
  rw [List.take_append, List.take_of_length_le (by rw [hl]; exact h), hl, List.drop_take, List.take_take, Nat.min_eq_left (by omega)]
theorem upd_grw {B g n cap : Nat} {E : TypeId} {w' : World} {cur : Array Value} {fz : Nat × Nat} (u : Upd g w w') (hg : B ≤ g) (hh : w.heap[g]? = some (.cells cur E fz)) : GrW B E (.slice (some ⟨g, 0, none⟩) n cap) w w' :=
  ⟨u.os, u.tape, u.output, Nat.le_of_eq u.size.symm, fun k _ hne => u.block k (fun e => hne (by rw [e]; rfl)), fun k hk => by
    have : g = k := by simpa [Value.ownBlock] using hk
    subst this
    exact ⟨hg, cur, fz, hh⟩⟩
/-- copy(s[i:], y), s a row of the call's own -/
theorem copy_run {B : Nat} {E T U ty : TypeId} {sz g : Nat} {y : Value} {n i m k cap : Nat} {cs ds : List Value} (hT : P.underlying T = some (.slice E)) (hE : (P.info? E).map (·.size) = some sz)
    (hv : OwnF w B E sz (.slice (some ⟨g, 0, none⟩) n cap) n cs) (hy : RdF w sz y m ds) (hi : i < n) (hm : 0 < m) (hk : k = Nat.min m (n - i)) (h1 : ∀ u ∈ ds.take (k * sz), u.oneCell' = true) :
    ∃ w', (Builtin.copy_ #[T, U] ty #[cutF (.slice (some ⟨g, 0, none⟩) n cap) i sz, y]).run P w = .ok (goInt k) w' ∧ OwnF w' B E sz (.slice (some ⟨g, 0, none⟩) n cap) n (cs.take (i * sz) ++ ds.take (k * sz) ++ cs.drop ((i + k) * sz)) ∧ GrW B E (.slice (some ⟨g, 0, none⟩) n cap) w w' := by
  obtain ⟨hl, A, c2, rfl, _, h2⟩ := hy
  obtain ⟨g2, j, rfl, _, h3⟩ := h2 hm
  rcases hv.2 with ⟨h, _⟩ | ⟨g', cap', cur, h, hg, hh, hn, hc, hs, ht⟩
  · cases h
  · cases h
    have hkm : k ≤ m := by rw [hk]; exact Nat.min_le_left _ _
    have hkn : k ≤ n - i := by rw [hk]; exact Nat.min_le_right _ _
    have hdl : (ds.take (k * sz)).length = k * sz := by rw [List.length_take, hl]; exact Nat.min_eq_left (Nat.mul_le_mul_right _ hkm)
    have hsum : i * sz + k * sz = (i + k) * sz := (Nat.add_mul _ _ _).symm
    have hle : (i + k) * sz ≤ n * sz := Nat.mul_le_mul_right _ (by omega)
    have hle2 : n * sz ≤ cap * sz := Nat.mul_le_mul_right _ hn
    have hcut : cutF (.slice (some ⟨g, 0, none⟩) n cap) i sz = .slice (some ⟨g, i * sz, none⟩) (n - i) (cap - i) := by
      show Value.slice (if cap = i then some ⟨g, 0, none⟩ else (some (⟨g, 0, none⟩ : Addr)).map (·.add (i * sz))) (n - i) (cap - i) = _
      rw [if_neg (by omega), Option.map_some, Addr.add_mid, Nat.zero_add]
    have hf := run_firstCells_some (P := P) w sz k ⟨g2, j, none⟩ m c2 (ds.take (k * sz)) hdl (fun q v hq => by
      rw [Addr.add_mid]
      refine h3 q v ?_
      rw [List.getElem?_take] at hq
      split at hq
      · exact hq
      · cases hq)
    have hst := run_storeCells_at P g (i * sz) E (ds.take (k * sz)) 0 cur w hh (by rw [hdl, Nat.add_zero, hsum, hs]; omega) h1
    rw [hdl, Nat.add_zero, hsum] at hst
    refine ⟨w.setRow g (cur.toList.take (i * sz) ++ ds.take (k * sz) ++ cur.toList.drop ((i + k) * sz)).toArray, ?_, ⟨?_, .inr ⟨g, cap, _, rfl, hg, setRow_heap w g cur _ E _ hh, hn, hc, ?_, ?_⟩⟩, upd_grw (upd_row w) hg hh⟩
    · rw [hcut]
      have hsz := run_sz hE w
      simp [Builtin.copy_, run_underlying hT, Builtin.lenOf, Sem.run_bind, hsz, ← hk, hf, hst]
    · rw [List.length_append, List.length_append, List.length_take, List.length_drop, hdl, hv.1, Nat.min_eq_left (by omega)]
      omega
    · rw [List.size_toArray, List.length_append, List.length_append, List.length_take, List.length_drop, hdl, Array.length_toList, hs, Nat.min_eq_left (by omega)]
      omega
    · have := take_ow cur.toList (ds.take (k * sz)) (i * sz) (n * sz) (by rw [Array.length_toList, hs]; omega) (by rw [hdl, hsum]; exact hle)
      rw [hdl, hsum, ht] at this
      rw [← this]
theorem l_copyF {B : Nat} {E T U : TypeId} {sz g : Nat} {x y : Operand} {u v : Value} {n i m k cap : Nat} {cs ds : List Value} (hg : o.guard = none) (ho : o.op = .call { callee := .builtin .copy, args := #[x, y], argTypes := #[T, U] })
    (hT : P.underlying T = some (.slice E)) (hE : (P.info? E).map (·.size) = some sz) (hx : a.eval x = v) (hxv : v = cutF (.slice (some ⟨g, 0, none⟩) n cap) i sz) (hy : a.eval y = u) (hv : OwnF w B E sz (.slice (some ⟨g, 0, none⟩) n cap) n cs) (hu : RdF w sz u m ds) (hi : i < n) (hm : 0 < m) (hk : k = Nat.min m (n - i)) (h1 : ∀ u ∈ ds.take (k * sz), u.oneCell' = true)
    (h : ∀ w', OwnF w' B E sz (.slice (some ⟨g, 0, none⟩) n cap) n (cs.take (i * sz) ++ ds.take (k * sz) ++ cs.drop ((i + k) * sz)) → GrW B E (.slice (some ⟨g, 0, none⟩) n cap) w w' → wpList P ops Q rest (a.put o.dst (.int .i64 (k : Int))) w') : wpList P ops Q (o :: rest) a w := by
  subst hxv
  obtain ⟨w', hrun, r1, r2⟩ := copy_run (U := U) (ty := o.type) hT hE hv hu hi hm hk h1
  refine wpList_plain hg fun K hK => ?_
  have hrun' : (execOp a.eval o).run P w = .ok (.value (goInt k)) w' := by
    unfold execOp
    simp [ho, resolve, invoke, builtin, hx, hy, hrun]
  unfold Oper.wp
  rw [hrun']
  exact hK _ _ (h _ r1 r2)
/-- s[:h], told as_ a row of the call's own -/
theorem OwnF.more {B : Nat} {E : TypeId} {sz g n cap h : Nat} {cs : List Value} (hv : OwnF w B E sz (.slice (some ⟨g, 0, none⟩) n cap) n cs) (h1 : n ≤ h) (h2 : h ≤ cap) : ∃ xs, xs.length = (h - n) * sz ∧ OwnF w B E sz (.slice (some ⟨g, 0, none⟩) h cap) h (cs ++ xs) := by
  rcases hv.2 with ⟨e, _⟩ | ⟨g', cap', cur, e, hg, hh, hn, hc, hs, ht⟩
  · cases e
  · cases e
    have hle : n * sz ≤ h * sz := Nat.mul_le_mul_right _ h1
    have hle2 : h * sz ≤ cap * sz := Nat.mul_le_mul_right _ h2
    have hxl : ((cur.toList.take (h * sz)).drop (n * sz)).length = (h - n) * sz := by rw [List.length_drop, List.length_take, Array.length_toList, hs, Nat.min_eq_left hle2, Nat.sub_mul]
    refine ⟨(cur.toList.take (h * sz)).drop (n * sz), hxl, ⟨by rw [List.length_append, hxl, hv.1, ← Nat.add_mul]; congr 1; omega, .inr ⟨g, cap, cur, rfl, hg, hh, h2, hc, hs, ?_⟩⟩⟩
    rw [← ht, ← Nat.min_eq_left hle, ← List.take_take, Nat.min_eq_left hle, List.take_append_drop]
/-- .. and with fewer -/
theorem OwnF.less {B : Nat} {E : TypeId} {sz g n cap h : Nat} {cs : List Value} (hv : OwnF w B E sz (.slice (some ⟨g, 0, none⟩) n cap) n cs) (h1 : h ≤ n) : OwnF w B E sz (.slice (some ⟨g, 0, none⟩) h cap) h (cs.take (h * sz)) := by
  rcases hv.2 with ⟨e, _⟩ | ⟨g', cap', cur, e, hg, hh, hn, hc, hs, ht⟩
  · cases e
  · cases e
    have hle : h * sz ≤ n * sz := Nat.mul_le_mul_right _ h1
    refine ⟨by rw [List.length_take, hv.1]; exact Nat.min_eq_left hle, .inr ⟨g, cap, cur, rfl, hg, hh, Nat.le_trans h1 hn, hc, hs, ?_⟩⟩
    rw [← ht, List.take_take, Nat.min_eq_left hle]
theorem head_some (g n cap h : Nat) : headF (.slice (some ⟨g, 0, none⟩) n cap) h = .slice (some ⟨g, 0, none⟩) h cap := by
  show Value.slice (if cap = 0 then some ⟨g, 0, none⟩ else (some (⟨g, 0, none⟩ : Addr)).map (·.add 0)) h cap = _
  rw [Option.map_some, Addr.add_mid]
  split <;> rfl
theorem q_headS {T E : TypeId} {sz : Nat} {x hi : Operand} {g n cap h : Nat} (ho : o.op = .slice T x none (some hi) none) (hT : P.underlying T = some (.slice E)) (hE : (P.info? E).map (·.size) = some sz) (hx : a.eval x = .slice (some ⟨g, 0, none⟩) n cap) (hh : a.eval hi = .int .i64 (h : Int)) (hic : h ≤ cap) (hn : K (a.put o.dst (.slice (some ⟨g, 0, none⟩) h cap))) : o.quiet P a C K :=
  q_moreF ho hT hE hx hh hic (by rw [head_some]; exact hn)
theorem GrW.ofLow {B : Nat} {E : TypeId} {v : Value} {w' : World} (h : Low w w') (ho : ∀ k, v.ownBlock = some k → B ≤ k ∧ ∃ cur fz, w.heap[k]? = some (.cells cur E fz)) : GrW B E v w w' := ⟨h.os, h.tape, h.output, h.size, fun k hk _ => h.block k hk, ho⟩
theorem GrW.after {B B' : Nat} {E : TypeId} {v v' : Value} {w1 w2 : World} (h : GrW B E v w w1) (k : GrW B' E v' w1 w2) (hb : v'.ownBlock = v.ownBlock) : GrW B E v w w2 :=
  ⟨k.os.trans h.os, k.tape.trans h.tape, k.output.trans h.output, Nat.le_trans h.size k.size, fun i hi hne => (k.block i (Nat.lt_of_lt_of_le hi h.size) (fun e => hne (hb ▸ e))).trans (h.block i hi hne), h.old⟩
theorem OwnF.anyB {B : Nat} {E : TypeId} {sz : Nat} {v : Value} {n : Nat} {cs : List Value} (h : OwnF w B E sz v n cs) : ∀ k, v.ownBlock = some k → B ≤ k ∧ ∃ cur fz, w.heap[k]? = some (.cells cur E fz) := fun k hk => ⟨(h.block k hk).1, (h.block k hk).2.2⟩
/-- append(s[:i], zeros...) where there is no room -/
theorem appZ_run {B : Nat} {E T U ty : TypeId} {sz g : Nat} {n i m cap : Nat} {cs : List Value} (hT : P.underlying T = some (.slice E)) (hU : P.underlying U = some (.int .i64)) (hE : recB P E sz = true) (hp : 0 < sz)
    (hv : OwnF w B E sz (.slice (some ⟨g, 0, none⟩) n cap) n cs) (hi : i ≤ n) (hm : 0 < m) (hc : cap < i + m) (hbd : i + m ≤ 1000000) :
    ∃ h G zs w', (Builtin.append_ #[T, U] ty #[headF (.slice (some ⟨g, 0, none⟩) n cap) i, .int .i64 (m : Int)]).run P w = .ok (.slice (some ⟨h, 0, none⟩) (i + m) G) w' ∧ w.heap.size ≤ h ∧ zs.length = m * sz ∧ OwnF w' w.heap.size E sz (.slice (some ⟨h, 0, none⟩) (i + m) G) (i + m) (cs.take (i * sz) ++ zs) ∧ Low w w' := by
  obtain ⟨inf, z, hi0, hz, hs0, hb0, hzs⟩ := recB_spec hE
  subst hs0
  have hlen : (cs.take (i * inf.size)).length = i * inf.size := by rw [List.length_take, hv.1]; exact Nat.min_eq_left (Nat.mul_le_mul_right _ hi)
  have hhead : headF (.slice (some ⟨g, 0, none⟩) n cap) i = .slice (some ⟨g, 0, none⟩) i cap := by
    show Value.slice (if cap = 0 then some ⟨g, 0, none⟩ else (some (⟨g, 0, none⟩ : Addr)).map (·.add 0)) i cap = _
    rw [Option.map_some, Addr.add_mid]
    split <;> rfl
  have hold : (Builtin.firstCells inf.size i (.slice (some ⟨g, 0, none⟩) i cap)).run P w.drew = .ok (cs.take (i * inf.size)).toArray w.drew :=
    run_firstCells_some (P := P) w.drew inf.size i ⟨g, 0, none⟩ i cap (cs.take (i * inf.size)) hlen (fun q v hq => by
      rw [List.getElem?_take] at hq
      split at hq
      · exact World.ownsRow.cells hv (by rfl) q v hq
      · cases hq)
  have hmb : (i + m) * inf.bytes ≤ 140737488355328 := Nat.le_trans (Nat.mul_le_mul_left (i + m) hb0) (by omega)
  have hmb2 : m * inf.bytes ≤ 281474976710656 := Nat.le_trans (Nat.mul_le_mul_left m hb0) (by omega)
  have hrun := Lib.run_append_grow_zeros (P := P) w T U ty E inf z .i64 .i64 hT hU hi0 hz (some ⟨g, 0, none⟩) i cap (cs.take (i * inf.size)) hold m hm hp hc (by omega) hmb2 (growslice_fits hc hmb)
  have hge := grownCap_ge w (i + m) cap E
  have hcm : grownCap w (i + m) cap E ≤ maxLen := grownCap_le_maxLen w (i + m) cap E (by simp only [maxLen]; omega)
  refine ⟨w.heap.size, grownCap w (i + m) cap E, (Builtin.zeroCells z.cells m).toList, _, by rw [hhead]; exact hrun, Nat.le_refl _, by rw [Array.length_toList, size_zeroCells, hzs], ⟨by rw [List.length_append, hlen, Array.length_toList, size_zeroCells, hzs, ← Nat.add_mul], .inr ⟨w.heap.size, _, _, rfl, Nat.le_refl _, heap_alloc_new w.drew _, hge, hcm, ?_, ?_⟩⟩, ?_⟩
  · simp only [Array.size_append, List.size_toArray, size_zeroCells, hzs, hlen, ← Nat.add_mul]
    congr 1
    omega
  · rw [Array.toList_append, Array.toList_append, List.take_append_of_le_length (by simp only [List.length_append, Array.length_toList, size_zeroCells, hzs, hlen, ← Nat.add_mul]; exact Nat.le_refl _), List.take_of_length_le]
    simp only [List.length_append, Array.length_toList, size_zeroCells, hzs, hlen, ← Nat.add_mul]
    exact Nat.le_refl _
  · exact ⟨rfl, rfl, rfl, by simp, fun k hk => heap_alloc_old w.drew _ hk⟩
theorem l_appZ {B : Nat} {E T U : TypeId} {sz g : Nat} {x y : Operand} {n i m cap : Nat} {cs : List Value} (hg : o.guard = none) (ho : o.op = .call { callee := .builtin .append, args := #[x, y], argTypes := #[T, U] }) (hT : P.underlying T = some (.slice E)) (hU : P.underlying U = some (.int .i64)) (hE : recB P E sz = true) (hp : 0 < sz)
    (hx : a.eval x = headF (.slice (some ⟨g, 0, none⟩) n cap) i) (hy : a.eval y = .int .i64 (m : Int)) (hv : OwnF w B E sz (.slice (some ⟨g, 0, none⟩) n cap) n cs) (hi : i ≤ n) (hm : 0 < m) (hc : cap < i + m) (hbd : i + m ≤ 1000000)
    (h : ∀ h G zs w', w.heap.size ≤ h → zs.length = m * sz → OwnF w' w.heap.size E sz (.slice (some ⟨h, 0, none⟩) (i + m) G) (i + m) (cs.take (i * sz) ++ zs) → Low w w' → wpList P ops Q rest (a.put o.dst (.slice (some ⟨h, 0, none⟩) (i + m) G)) w') : wpList P ops Q (o :: rest) a w := by
  obtain ⟨b, G, zs, w', hrun, r0, r1, r2, r3⟩ := appZ_run (ty := o.type) hT hU hE hp hv hi hm hc hbd
  refine wpList_plain hg fun K hK => ?_
  have hrun' : (execOp a.eval o).run P w = .ok (.value (.slice (some ⟨b, 0, none⟩) (i + m) G)) w' := by
    unfold execOp
    simp [ho, resolve, invoke, builtin, hx, hy, hrun]
  unfold Oper.wp
  rw [hrun']
  exact hK _ _ (h _ _ _ _ r0 r1 r2 r3)
/-- clear(s[n:]..) behind a row of the call's own -/
theorem l_clearF {B : Nat} {E T : TypeId} {sz g : Nat} {x : Operand} {v : Value} {n d cap : Nat} {cs : List Value} {zs : Array Value} (hg : o.guard = none) (ho : o.op = .call { callee := .builtin .clear, args := #[x], argTypes := #[T] }) (hT : P.underlying T = some (.slice E)) (hz : ∀ w, (zeroValue E).run P w = .ok (.agg zs) w) (hzs : zs.size = sz) (h1 : zs.all (·.oneCell') = true)
    (hx : a.eval x = v) (hxv : v = .slice (if cap = n then some ⟨g, 0, none⟩ else (some (⟨g, 0, none⟩ : Addr)).map (·.add (n * sz))) d (cap - n)) (hdst : o.dst = none) (hv : OwnF w B E sz (.slice (some ⟨g, 0, none⟩) n cap) n cs) (hd : 0 < d) (hc : n + d ≤ cap)
    (h : ∀ w', OwnF w' B E sz (.slice (some ⟨g, 0, none⟩) n cap) n cs → GrW B E (.slice (some ⟨g, 0, none⟩) n cap) w w' → wpList P ops Q rest a w') : wpList P ops Q (o :: rest) a w := by
  subst hxv
  rcases hv.2 with ⟨e, _⟩ | ⟨g', cap', cur, e, hgB, hh, hn, hcm, hs, ht⟩
  · cases e
  · cases e
    have hzl : (Builtin.zeroCells zs d).toList.length = d * sz := by rw [Array.length_toList, size_zeroCells, hzs]
    have hle : (n + d) * sz ≤ cap * sz := Nat.mul_le_mul_right _ hc
    have hsum : n * sz + d * sz = (n + d) * sz := (Nat.add_mul _ _ _).symm
    have hone : ∀ u ∈ (Builtin.zeroCells zs d).toList, u.oneCell' = true := by
      intro u hu
      rw [Array.mem_toList_iff] at hu
      simp only [Builtin.zeroCells, Array.mem_map, Array.mem_range] at hu
      obtain ⟨j, hj, rfl⟩ := hu
      have hpos : 0 < zs.size := by
        rcases Nat.eq_zero_or_pos zs.size with h0 | h0
        · rw [h0, Nat.mul_zero] at hj; omega
        · exact h0
      have hlt : j % zs.size < zs.size := Nat.mod_lt _ hpos
      rw [getElem!_pos zs _ hlt]
      exact (Array.all_eq_true_iff_forall_mem.1 h1) _ (Array.getElem_mem hlt)
    have hst := run_storeCells_at P g (n * sz) E (Builtin.zeroCells zs d).toList 0 cur w hh (by rw [hzl, Nat.add_zero, hsum, hs]; exact hle) hone
    rw [hzl, Nat.add_zero, hsum] at hst
    have hrun : (Builtin.clear_ #[T] o.type #[.slice (if cap = n then some ⟨g, 0, none⟩ else (some (⟨g, 0, none⟩ : Addr)).map (·.add (n * sz))) d (cap - n)]).run P w = .ok (.tuple #[]) (w.setRow g (cur.toList.take (n * sz) ++ (Builtin.zeroCells zs d).toList ++ cur.toList.drop ((n + d) * sz)).toArray) := by
      rw [if_neg (by omega), Option.map_some, Addr.add_mid, Nat.zero_add]
      obtain ⟨q, rfl⟩ : ∃ q, d = q + 1 := ⟨d - 1, by omega⟩
      simp [Builtin.clear_, run_underlying hT, Sem.run_bind, hz, Value.cells, hst]
    refine wpList_plain hg fun K hK => ?_
    have hrun' : (execOp a.eval o).run P w = .ok (.value (.tuple #[])) (w.setRow g (cur.toList.take (n * sz) ++ (Builtin.zeroCells zs d).toList ++ cur.toList.drop ((n + d) * sz)).toArray) := by
      unfold execOp
      simp only [ho, resolve, invoke, builtin, Sem.run_bind, Sem.run_pure, Result.andThen_ok, List.map_toArray, List.map_cons, List.map_nil, hx, hrun]
    unfold Oper.wp
    rw [hrun']
    show K (a.put o.dst (.tuple #[])) _
    rw [hdst]
    refine hK _ _ (h _ ⟨hv.1, .inr ⟨g, cap, _, rfl, hgB, setRow_heap w g cur _ E _ hh, hn, hcm, ?_, ?_⟩⟩ (upd_grw (upd_row w) hgB hh))
    · rw [List.size_toArray, List.length_append, List.length_append, List.length_take, List.length_drop, hzl, Array.length_toList, hs, Nat.min_eq_left (by omega)]
      omega
    · show ((cur.toList.take (n * sz) ++ (Builtin.zeroCells zs d).toList ++ cur.toList.drop ((n + d) * sz))).take (n * sz) = cs
      rw [List.append_assoc, List.take_append_of_le_length (by rw [List.length_take, Array.length_toList, hs, Nat.min_eq_left (by omega)]; exact Nat.le_refl _), List.take_take, Nat.min_self, ht]
/-- append within room: the same block, the same capacity -/
theorem l_appRoom {B : Nat} {E T : TypeId} {sz g : Nat} {x y : Operand} {u v : Value} {n m cap : Nat} {cs ds : List Value} (hg : o.guard = none) (ho : o.op = .call { callee := .builtin .append, args := #[x, y], argTypes := #[T, T] }) (hT : P.underlying T = some (.slice E)) (hE : recB P E sz = true)
    (hx : a.eval x = v) (hxv : v = .slice (some ⟨g, 0, none⟩) n cap) (hy : a.eval y = u) (hv : OwnF w B E sz (.slice (some ⟨g, 0, none⟩) n cap) n cs) (hu : RdF w sz u m ds) (h1 : ∀ u ∈ ds, u.oneCell' = true) (hc : n + m ≤ cap)
    (h : ∀ w', OwnF w' B E sz (.slice (some ⟨g, 0, none⟩) (n + m) cap) (n + m) (cs ++ ds) → GrW B E (.slice (some ⟨g, 0, none⟩) n cap) w w' → wpList P ops Q rest (a.put o.dst (.slice (some ⟨g, 0, none⟩) (n + m) cap)) w') : wpList P ops Q (o :: rest) a w := by
  subst hxv
  obtain ⟨i, z, hi, hz, h2, h3, h4⟩ := recB_spec hE
  obtain ⟨hl, A, c2, rfl, _, h5⟩ := hu
  have hrun : ∃ w', (Builtin.append_ #[T, T] o.type #[.slice (some ⟨g, 0, none⟩) n cap, .slice A m c2]).run P w = .ok (.slice (some ⟨g, 0, none⟩) (n + m) cap) w' ∧ OwnF w' B E sz (.slice (some ⟨g, 0, none⟩) (n + m) cap) (n + m) (cs ++ ds) ∧ GrW B E (.slice (some ⟨g, 0, none⟩) n cap) w w' := by
    rcases Nat.eq_zero_or_pos m with h0 | h0
    · subst h0
      have hd : ds = [] := List.eq_nil_of_length_eq_zero (by simpa using hl)
      subst hd
      have hfc : ∀ w, (Builtin.firstCells sz 0 (.slice A 0 c2)).run P w = .ok #[] w := by
        intro w
        cases A with
        | none => simp [Builtin.firstCells]
        | some ad => simp [Builtin.firstCells, loadCells, loadCellsFrom]
      refine ⟨w, ?_, by simpa using hv, ⟨rfl, rfl, rfl, Nat.le_refl _, fun _ _ _ => rfl, fun k hk => ⟨(OwnF.block hv k hk).1, (OwnF.block hv k hk).2.2⟩⟩⟩
      have hn : n ≤ cap := by omega
      simp [Builtin.append_, run_underlying hT, sizeOf, typeInfo, hi, h2, Builtin.lenOf, hfc, hn, storeCells]
    · obtain ⟨g2, j, rfl, _, h6⟩ := h5 h0
      obtain ⟨w', r0, r1, r2⟩ := run_append_own_spare (P := P) w B T o.type E i sz hT hi h2 g n cap cs hv ⟨g2, j, none⟩ m c2 ds hl (fun k u hu => by
        rw [Addr.add_mid]
        exact h6 k u hu) h1 hc
      exact ⟨w', r0, r1, ⟨r2.os, r2.tape, r2.output, r2.size, fun k hk hne => r2.block k hk (fun e => hne (by rw [e]; rfl)), fun k hk => ⟨(OwnF.block hv k hk).1, (OwnF.block hv k hk).2.2⟩⟩⟩
  obtain ⟨w', hr, r1, r2⟩ := hrun
  refine wpList_plain hg fun K hK => ?_
  have hrun' : (execOp a.eval o).run P w = .ok (.value (.slice (some ⟨g, 0, none⟩) (n + m) cap)) w' := by
    unfold execOp
    simp [ho, resolve, invoke, builtin, hx, hy, hr]
  unfold Oper.wp
  rw [hrun']
  exact hK _ _ (h _ r1 r2)
end
end Go.Proofs.YtnhchnlgleokoaaDoor.Q
end
/-! T0 -/
section
namespace Go.Proofs.YtnhchnlgleokoaaDoor.Q
open Go.RowKit Go.Proofs.YtnhchnlgleokoaaDoorW.PrintWords
set_option maxRecDepth 100000
theorem hm : Tryd.prog.follows .mixedOrders = true := by kernel_rfl
structure Rf where
  f0 : ByteArray
  f1 : ByteArray
structure Sw where
  f0 : ByteArray
  f1 : ByteArray
  f2 : ByteArray
def encP (x : Rf) : List Value := [.string x.f0, .string x.f1]
def encW (x : Sw) : List Value := [.string x.f0, .string x.f1, .string x.f2]
def encS (x : ByteArray) : List Value := [.string x]
theorem encP_len (x : Rf) : (encP x).length = 2 := rfl
theorem encW_len (x : Sw) : (encW x).length = 3 := rfl
theorem encS_len (x : ByteArray) : (encS x).length = 1 := rfl
abbrev nilB : ByteArray := ⟨#[]⟩
def zP : Rf := ⟨nilB, nilB⟩
def zW : Sw := ⟨nilB, nilB, nilB⟩
theorem zero55 : ∀ w, (zeroValue 55).run Tryd.prog w = .ok (.agg #[.string zP.f0, .string zP.f1]) w := fun w => by kernel_rfl
theorem zero32 : ∀ w, (zeroValue 32).run Tryd.prog w = .ok (.agg #[.string zW.f0, .string zW.f1, .string zW.f2]) w := fun w => by kernel_rfl
theorem zero24 : ∀ w, (zeroValue 24).run Tryd.prog w = .ok (.agg #[.string nilB, .slice none 0 0]) w := fun w => by kernel_rfl
theorem zero29 : ∀ w, (zeroValue 29).run Tryd.prog w = .ok (.agg #[.string nilB, .slice none 0 0]) w := fun w => by kernel_rfl
theorem rec55 : recB Tryd.prog 55 2 = true := by kernel_rfl
theorem rec32 : recB Tryd.prog 32 3 = true := by kernel_rfl
theorem sz55 : (Tryd.prog.info? 55).map (·.size) = some 2 := by kernel_rfl
theorem sz32 : (Tryd.prog.info? 32).map (·.size) = some 3 := by kernel_rfl
theorem sz24 : (Tryd.prog.info? 24).map (·.size) = some 2 := by kernel_rfl
theorem sz29 : (Tryd.prog.info? 29).map (·.size) = some 2 := by kernel_rfl
theorem sz9 : (Tryd.prog.info? 9).map (·.size) = some 1 := by kernel_rfl
theorem sz22 : (Tryd.prog.info? 22).map (·.size) = some 1 := by kernel_rfl
theorem fld55_0 (p : Addr) (w : World) : (Instr.fieldAt 55 (.pointer (some p)) 0).run Tryd.prog w = .ok (.pointer (some (p.add 0))) w := by kernel_rfl
theorem fld55_1 (p : Addr) (w : World) : (Instr.fieldAt 55 (.pointer (some p)) 1).run Tryd.prog w = .ok (.pointer (some (p.add 1))) w := by kernel_rfl
section
variable {P : Program} {Q : Exit → Act → World → Prop} {a : Act} {w : World} {o : Oper} {ops : Array Oper} {rest : List Oper} {K : Act → Prop} {C : World → Prop}
/-- a function's value called: a closure's variables come behind the arguments -/
theorem l_callV {f : FuncId} {fn : Func} {c : Call} {x : Operand} {args caps : Array Value} (R : Value → World → Prop) (hg : o.guard = none) (ho : o.op = .call c) (hc : c.callee = .value x) (hx : a.eval x = .func (.func f) #[] caps) (hf : P.funcs[f]? = some fn) (hn' : (fn.name == "runtime.NumGoroutine" || fn.body.isNone) = false)
    (ha : c.args.map a.eval = args) (hcall : Calls P f (args ++ caps) w fun e w' => ∃ v, e = .returned v ∧ R v w') (h : ∀ v w', R v w' → wpList P ops Q rest (a.put o.dst v) w') : wpList P ops Q (o :: rest) a w := by
  refine wpList_plain hg fun K hK => ?_
  have hrun : (execOp a.eval o).run P w = .ok (.enter f (args ++ caps)) w := by
    rw [Bool.or_eq_false_iff] at hn'
    unfold execOp
    have hpr : (program : Sem Program).run P w = .ok P w := rfl
    simp only [ho, resolve, hc, ha, hx, Deferred.ofValue, invoke, callFunc, Sem.run_bind, Sem.run_pure, Result.andThen_ok, hpr, hf, hn'.1, hn'.2, Array.empty_append]
    rfl
  unfold Oper.wp
  rw [hrun]
  exact hcall.mono fun e w' ⟨v, he, hR⟩ => by subst he; exact hK _ _ (h v w' hR)
theorem q_makeFunc {f : Fn} {x : Operand} {u : Value} (ho : o.op = .makeFunc f #[] #[x]) (hx : a.eval x = u) (hn : K (a.put o.dst (.func f #[] #[u]))) : o.quiet P a C K :=
  q_val _ (fun w _ => by
    unfold execOp
    simp [ho, hx, Instr.makeFunc]) hn
end
theorem calls_bool {P : Program} {f : FuncId} {args : Array Value} {w : World} {b c : Bool} {R : World → Prop} (h : Calls P f args w fun e w' => e = .returned (.bool b) ∧ R w') (e : b = c) : Calls P f args w fun e w' => e = .returned (.bool c) ∧ R w' := e ▸ h
theorem beqS (a b : ByteArray) : (a.toList == b.toList) = decide (a = b) := by
  rw [Bool.eq_iff_iff, beq_iff_eq, decide_eq_true_iff]
  constructor
  · intro h
    have h1 : a.data.toList = b.data.toList := by simpa [ByteArray.toList_eq] using h
    cases a; cases b
    simp_all
  · rintro rfl; rfl
theorem strT {a b : ByteArray} (h : a = b) : (a.toList == b.toList) = true := by rw [beqS]; exact decide_eq_true h
theorem strF {a b : ByteArray} (h : ¬ a = b) : (a.toList == b.toList) = false := by rw [beqS]; exact decide_eq_false h
theorem neT {a b : ByteArray} (h : ¬ a = b) : (!(a.toList == b.toList)) = true := by rw [strF h]; rfl
theorem neF {a b : ByteArray} (h : a = b) : (!(a.toList == b.toList)) = false := by rw [strT h]; rfl
instance decP : DecidableEq Rf := fun x y => decidable_of_iff (x.f0 = y.f0 ∧ x.f1 = y.f1) (by cases x; cases y; simp)
instance decW : DecidableEq Sw := fun x y => decidable_of_iff (x.f0 = y.f0 ∧ x.f1 = y.f1 ∧ x.f2 = y.f2) (by cases x; cases y; simp)
def eqPb (x y : Rf) : Bool := x.f0.toList == y.f0.toList && (x.f1.toList == y.f1.toList)
theorem eqPb_eq (x y : Rf) : eqPb x y = decide (x = y) := by
  unfold eqPb
  rw [beqS, beqS, Bool.eq_iff_iff]
  cases x; cases y
  simp
theorem eqP_true {x y : Rf} (h : x = y) : eqPb x y = true := by rw [eqPb_eq]; exact decide_eq_true h
theorem eqP_false {x y : Rf} (h : ¬ x = y) : eqPb x y = false := by rw [eqPb_eq]; exact decide_eq_false h
theorem neP_true {x y : Rf} (h : ¬ x = y) : (!eqPb x y) = true := by rw [eqP_false h]; rfl
theorem neP_false {x y : Rf} (h : x = y) : (!eqPb x y) = false := by rw [eqP_true h]; rfl
theorem eq55 (d : Nat) (x0 x1 y0 y1 : ByteArray) (w : World) : (Op.equalIn (d + 2) 55 (.agg #[.string x0, .string x1]) (.agg #[.string y0, .string y1])).run Tryd.prog w = .ok (x0.toList == y0.toList && (x1.toList == y1.toList)) w :=
  eqA_of Tryd.underlying55 (by kernel_rfl) (eqf_cons rfl (by kernel_rfl) (by kernel_rfl) (run_equalIn_string w d _ x0 y0 Tryd.underlying9) (eqf_last rfl (by kernel_rfl) (by kernel_rfl) (run_equalIn_string w d _ x1 y1 Tryd.underlying9)))
theorem guard55 : Tryd.prog.eqGuardType Tryd.prog.depth 55 = false := by kernel_rfl
theorem encP_one (x : Rf) : ∀ u ∈ encP x, u.oneCell' = true := by intro u hu; simp [encP] at hu; rcases hu with rfl | rfl <;> rfl
theorem getD_next {α : Type} (l : List α) (k : Nat) (d : α) (h : k < l.length) : l.take (k + 1) = l.take k ++ [l.getD k d] := by
  rw [List.take_succ_eq_append_getElem h]
  simp [List.getD_eq_getElem?_getD, h]
theorem idxF_at {l : List Rf} {p : Rf → Bool} (h : l.findIdx p < l.length) : p (l.getD (l.findIdx p) zP) = true := by
  have := List.findIdx_getElem (w := h)
  rw [List.getD_eq_getElem?_getD, List.getElem?_eq_getElem h]
  exact this
theorem idxF_round {l : List Rf} {p : Rf → Bool} (i : Nat) (h : i < l.findIdx p) : p (l.getD i zP) = false := by
  have h1 : i < l.length := Nat.lt_of_lt_of_le h List.findIdx_le_length
  have := List.not_of_lt_findIdx h
  rw [List.getD_eq_getElem?_getD, List.getElem?_eq_getElem h1]
  simpa using this
def fdiff {α : Type} [DecidableEq α] (a b : List α) (d : α) : Nat := (List.range a.length).findIdx fun i => decide (¬ a.getD i d = b.getD i d)
theorem fdiff_le {α : Type} [DecidableEq α] (a b : List α) (d : α) : fdiff a b d ≤ a.length := by
  have := List.findIdx_le_length (xs := List.range a.length) (p := fun i => decide (¬ a.getD i d = b.getD i d))
  rwa [List.length_range] at this
theorem fdiff_round {α : Type} [DecidableEq α] {a b : List α} {d : α} {i : Nat} (h : i < fdiff a b d) : a.getD i d = b.getD i d := by
  have h1 := List.not_of_lt_findIdx h
  rw [List.getElem_range] at h1
  simpa using h1
theorem fdiff_stop {α : Type} [DecidableEq α] {a b : List α} {d : α} (h : fdiff a b d < a.length) : ¬ a.getD (fdiff a b d) d = b.getD (fdiff a b d) d := by
  have h1 : decide (¬ a.getD ((List.range a.length)[fdiff a b d]'(by rw [List.length_range]; exact h)) d = b.getD ((List.range a.length)[fdiff a b d]'(by rw [List.length_range]; exact h)) d) = true := List.findIdx_getElem (w := by rw [List.length_range]; exact h)
  rw [List.getElem_range] at h1
  exact of_decide_eq_true h1
theorem fdiff_eq {α : Type} [DecidableEq α] {a b : List α} {d : α} (hl : a.length = b.length) (h : ¬ fdiff a b d < a.length) : a = b := by
  apply List.ext_getElem hl
  intro i h1 h2
  have := fdiff_round (a := a) (b := b) (d := d) (i := i) (by omega)
  rw [List.getD_eq_getElem?_getD, List.getD_eq_getElem?_getD, List.getElem?_eq_getElem h1, List.getElem?_eq_getElem h2] at this
  exact this
theorem fdiff_ne {α : Type} [DecidableEq α] {a b : List α} {d : α} (h : fdiff a b d < a.length) : ¬ a = b := by
  rintro rfl
  exact fdiff_stop h rfl
def firstN (n : Nat) (p : Nat → Prop) [DecidablePred p] : Nat := (List.range n).findIdx fun i => decide (¬ p i)
theorem firstN_le (n : Nat) (p : Nat → Prop) [DecidablePred p] : firstN n p ≤ n := by
  have := List.findIdx_le_length (xs := List.range n) (p := fun i => decide (¬ p i))
  rwa [List.length_range] at this
theorem firstN_round {n : Nat} {p : Nat → Prop} [DecidablePred p] {i : Nat} (h : i < firstN n p) : p i := by
  have h1 := List.not_of_lt_findIdx h
  rw [List.getElem_range] at h1
  simpa using h1
theorem firstN_stop {n : Nat} {p : Nat → Prop} [DecidablePred p] (h : firstN n p < n) : ¬ p (firstN n p) := by
  have h1 : decide (¬ p ((List.range n)[firstN n p]'(by rw [List.length_range]; exact h))) = true := List.findIdx_getElem (w := by rw [List.length_range]; exact h)
  rw [List.getElem_range] at h1
  exact of_decide_eq_true h1
theorem firstN_all {n : Nat} {p : Nat → Prop} [DecidablePred p] (h : ∀ i, i < n → p i) : firstN n p = n := by
  rcases Nat.lt_or_ge (firstN n p) n with c | c
  · exact absurd (h _ c) (firstN_stop c)
  · exact Nat.le_antisymm (firstN_le n p) c
end Go.Proofs.YtnhchnlgleokoaaDoor.Q
end
/-! T1 -/
section
namespace Go.Proofs.YtnhchnlgleokoaaDoor.Q
open Go.RowKit
theorem rdF_rec {w : World} {g n sz : Nat} {vs : List Value} {E : TypeId} (h : w.heap[g]? = some (.cells vs.toArray E)) (hn : vs.length = n * sz) : RdF w sz (.slice (some ⟨g, 0, none⟩) n n) n vs :=
  ⟨hn, _, n, rfl, Nat.le_refl _, fun _ => ⟨g, 0, rfl, heap_lt h, fun j u hu => by
    rw [Nat.zero_add]
    rw [cells_at h j]
    simpa using hu⟩⟩
theorem ow_lists {α : Type} (A X D : List α) (p q : Nat) (hp : A.length = p) (hq : p + X.length = q) : (A ++ X ++ D).take q = A ++ X ∧ (A ++ X ++ D).drop q = D := by
  have h : (A ++ X).length = q := by rw [List.length_append]; omega
  subst h
  exact ⟨List.take_left, List.drop_left⟩
theorem ins_grow (l : List Rf) (i : Nat) (x : Rf) (zs : List Value) (hi : i < l.length) (hz : zs.length = (l.length + 1 - i) * 2) :
    ((((l.map encP).flatten.take (i * 2) ++ zs).take (i * 2) ++ (encP x).take (1 * 2) ++ ((l.map encP).flatten.take (i * 2) ++ zs).drop ((i + 1) * 2)).take ((i + 1) * 2) ++ ((l.map encP).flatten.drop (i * 2)).take ((l.length - i) * 2) ++
      (((l.map encP).flatten.take (i * 2) ++ zs).take (i * 2) ++ (encP x).take (1 * 2) ++ ((l.map encP).flatten.take (i * 2) ++ zs).drop ((i + 1) * 2)).drop ((i + 1 + (l.length - i)) * 2)) =
    ((l.take i ++ [x] ++ l.drop i).map encP).flatten := by
  have hF := flat_len encP_len l
  have hA : ((l.map encP).flatten.take (i * 2)).length = i * 2 := by rw [List.length_take, hF]; omega
  have hX : ((encP x).take (1 * 2)).length = 2 := rfl
  have h1 : ((l.map encP).flatten.take (i * 2) ++ zs).take (i * 2) = (l.map encP).flatten.take (i * 2) := by rw [List.take_append_of_le_length (by omega), List.take_of_length_le (by omega)]
  rw [h1]
  obtain ⟨h2, _⟩ := ow_lists ((l.map encP).flatten.take (i * 2)) ((encP x).take (1 * 2)) (((l.map encP).flatten.take (i * 2) ++ zs).drop ((i + 1) * 2)) (i * 2) ((i + 1) * 2) hA (by omega)
  have hnil : ((l.map encP).flatten.take (i * 2) ++ (encP x).take (1 * 2) ++ ((l.map encP).flatten.take (i * 2) ++ zs).drop ((i + 1) * 2)).drop ((i + 1 + (l.length - i)) * 2) = [] := List.drop_eq_nil_of_le (by simp only [List.length_append, List.length_drop, hA, hX, hz]; omega)
  have htl : ((l.map encP).flatten.drop (i * 2)).take ((l.length - i) * 2) = (l.map encP).flatten.drop (i * 2) := List.take_of_length_le (by rw [List.length_drop, hF]; omega)
  rw [h2, hnil, List.append_nil, htl]
  rw [flat_take encP_len l i (by omega), flat_drop encP_len l i (by omega), show (encP x).take (1 * 2) = encP x from rfl]
  simp
theorem ins_room (l : List Rf) (i : Nat) (x : Rf) (xs : List Value) (hi : i < l.length) (hx : xs.length = (l.length + 1 - l.length) * 2) :
    ((((l.map encP).flatten ++ xs).take ((i + 1) * 2) ++ (((l.map encP).flatten ++ xs).drop (i * 2)).take ((l.length - i) * 2) ++ ((l.map encP).flatten ++ xs).drop ((i + 1 + (l.length - i)) * 2)).take (i * 2) ++ (encP x).take (1 * 2) ++
      (((l.map encP).flatten ++ xs).take ((i + 1) * 2) ++ (((l.map encP).flatten ++ xs).drop (i * 2)).take ((l.length - i) * 2) ++ ((l.map encP).flatten ++ xs).drop ((i + 1 + (l.length - i)) * 2)).drop ((i + 1) * 2)) =
    ((l.take i ++ [x] ++ l.drop i).map encP).flatten := by
  have hF := flat_len encP_len l
  have hA : (((l.map encP).flatten ++ xs).take ((i + 1) * 2)).length = (i + 1) * 2 := by rw [List.length_take, List.length_append, hF]; omega
  have hB : ((l.map encP).flatten ++ xs).drop (i * 2) = (l.map encP).flatten.drop (i * 2) ++ xs := by rw [List.drop_append_of_le_length (by omega)]
  have hBl : ((l.map encP).flatten.drop (i * 2)).length = (l.length - i) * 2 := by rw [List.length_drop, hF]; omega
  have hB2 : (((l.map encP).flatten ++ xs).drop (i * 2)).take ((l.length - i) * 2) = (l.map encP).flatten.drop (i * 2) := by rw [hB, List.take_append_of_le_length (by omega), List.take_of_length_le (by omega)]
  have hC : ((l.map encP).flatten ++ xs).drop ((i + 1 + (l.length - i)) * 2) = [] := List.drop_eq_nil_of_le (by rw [List.length_append, hF]; omega)
  rw [hB2, hC, List.append_nil]
  have h1 : ((((l.map encP).flatten ++ xs).take ((i + 1) * 2)) ++ (l.map encP).flatten.drop (i * 2)).take (i * 2) = (l.map encP).flatten.take (i * 2) := by
    rw [List.take_append_of_le_length (by omega), List.take_take, Nat.min_eq_left (by omega), List.take_append_of_le_length (by omega)]
  have h2 : ((((l.map encP).flatten ++ xs).take ((i + 1) * 2)) ++ (l.map encP).flatten.drop (i * 2)).drop ((i + 1) * 2) = (l.map encP).flatten.drop (i * 2) := by
    rw [List.drop_append_of_le_length (by omega), List.drop_eq_nil_of_le (by omega), List.nil_append]
  rw [h1, h2, flat_take encP_len l i (by omega), flat_drop encP_len l i (by omega), show (encP x).take (1 * 2) = encP x from rfl]
  simp
theorem del_row (l : List Rf) (i : Nat) (hi : i < l.length) : (l.map encP).flatten.take (i * 2) ++ (l.map encP).flatten.drop ((i + 1) * 2) = ((l.take i ++ l.drop (i + 1)).map encP).flatten := by
  rw [flat_take encP_len l i (by omega), flat_drop encP_len l (i + 1) (by omega)]
  simp
theorem end_row (l : List Rf) (x : Rf) : (l.map encP).flatten ++ encP x = ((l.take l.length ++ [x] ++ l.drop l.length).map encP).flatten := by simp
end Go.Proofs.YtnhchnlgleokoaaDoor.Q
end
/-! E1 -/
section
namespace Go.Proofs.YtnhchnlgleokoaaDoor.Q
abbrev u_3 := @Tryd.underlying3
abbrev u_4 := @Tryd.underlying4
abbrev u_9 := @Tryd.underlying9
abbrev u_22 := @Tryd.underlying22
abbrev u_24 := @Tryd.underlying24
abbrev u_25 := @Tryd.underlying25
abbrev u_29 := @Tryd.underlying29
abbrev u_32 := @Tryd.underlying32
abbrev u_55 := @Tryd.underlying55
abbrev u_79 := @Tryd.underlying79
abbrev u_91 := @Tryd.underlying91
end Go.Proofs.YtnhchnlgleokoaaDoor.Q
namespace Go.Proofs.YtnhchnlgleokoaaDoor.Q
open Go.RowKit
open Go.Proofs.YtnhchnlgleokoaaDoorW.PrintWords (bytesOf bytesOf_length)
set_option linter.unusedVariables false
set_option linter.unusedSimpArgs false
set_option maxRecDepth 100000
set_option maxHeartbeats 4000000
attribute [local irreducible] wpList wpQuiet qch Code.wp Oper.quiet Act.put At Region.wanted yielded
theorem cut_some (g n cap i sz : Nat) (h : i < cap) : cutF (.slice (some ⟨g, 0, none⟩) n cap) i sz = .slice (some ⟨g, i * sz, none⟩) (n - i) (cap - i) := by
  show Value.slice (if cap = i then some ⟨g, 0, none⟩ else (some (⟨g, 0, none⟩ : Addr)).map (·.add (i * sz))) (n - i) (cap - i) = _
  rw [if_neg (by omega), Option.map_some, Addr.add_mid, Nat.zero_add]
theorem Insert_end.calls (B g c i : Nat) (l : List Rf) (x : Rf) (gx : Nat) (hl : l.length + 1 ≤ 1000000) (hi : i = l.length) (w0 : World) (hv : OwnF w0 B 55 2 (.slice (some ⟨g, 0, none⟩) l.length c) l.length (l.map encP).flatten) (hlc : l.length ≤ c) (kx : w0.heap[gx]? = some (.cells #[.string x.f0, .string x.f1] 55)) (hgx : g ≠ gx) (hB : B ≤ w0.heap.size) : Calls Tryd.prog 30 #[.slice (some ⟨g, 0, none⟩) l.length c, .int .i64 i, .slice (some ⟨gx, 0, none⟩) 1 1] w0 fun e w' => ∃ v', e = .returned v' ∧ OwnF w' B 55 2 v' (l.take i ++ [x] ++ l.drop i).length ((l.take i ++ [x] ++ l.drop i).map encP).flatten ∧ GrW B 55 (.slice (some ⟨g, 0, none⟩) l.length c) w0 w' ∧ (v'.ownBlock = some g ∨ ∃ k, v'.ownBlock = some k ∧ w0.heap.size ≤ k) := by
 have hlt := OwnF.own_lt hv (k := g) rfl; refine c_fun (R := _) Tryd.func30 rfl 95 rfl (Nat.le_of_ble_eq_true rfl) ?_; intro a z hA; have s0 := hA 0 _ rfl; have s1 := hA 1 _ rfl; have s2 := hA 2 _ rfl; clear hA; refine c_seq (c_region ?_); refine l_q rfl (q_assign _ _ rfl rfl ?_); refine l_end (e_fr z.put fun a1 z1 m1 => ?_); have s0_1 := m1 s0.n1; have s1_1 := m1 s1.n1; have s2_1 := m1 s2.n1; refine e_then (c_seq (c_region ?_)); refine l_q rfl (qm rfl s0_1 (l_q rfl (qm rfl (s1_1.n1) (l_q rfl (q_cutF (i := i) rfl u_22 sz55 ((At.hit z1 rfl).n1).ev (At.hit z1.put rfl).ev hv.rd (by omega) (l_end (e_fr z1.p3 fun a2 z2 m2 => ?_))))))); have s0_2 := m2 s0_1.n3; have s1_2 := m2 s1_1.n3; have s2_2 := m2 s2_1.n3; refine e_then (c_seq (c_region ?_)); refine l_q rfl (qm rfl s2_2 (l_q rfl (q_lenL rfl rfl u_22 (At.hit z2 rfl).ev (l_q rfl (qa rfl (At.hit z2.put rfl) (l_end (e_fr z2.p3 fun a3 z3 m3 => ?_))))))); have s0_3 := m3 s0_2.n3; have s1_3 := m3 s1_2.n3; have s2_3 := m3 s2_2.n3; have s7_3 := m3 (At.hit z2.p2 rfl); refine e_then (c_seq (c_seq (c_region ?_))); refine l_q rfl (qm rfl s7_3 (l_q rfl (q_eql false rfl (At.hit z3 rfl).ev rfl (decide_eq_false (by omega)) (l_end (e_fr z3.p2 fun a4 z4 m4 => ?_))))); have s0_4 := m4 s0_3.n2; have s1_4 := m4 s1_3.n2; have s2_4 := m4 s2_3.n2; have s7_4 := m4 s7_3.n2; have s16_4 := m4 (At.hit z3.put rfl); refine e_then (c_false s16_4 ?_); refine wp_skip (e_then (c_seq (c_region ?_))); refine l_q rfl (qm rfl s0_4 (l_q rfl (q_lenL rfl rfl u_22 (At.hit z4 rfl).ev (l_q rfl (qa rfl (At.hit z4.put rfl) (l_end (e_fr z4.p3 fun a5 z5 m5 => ?_))))))); have s0_5 := m5 s0_4.n3; have s1_5 := m5 s1_4.n3; have s2_5 := m5 s2_4.n3; have s7_5 := m5 s7_4.n3; have s8_5 := m5 (At.hit z4.p2 rfl); refine e_then (c_seq (c_seq (c_region ?_))); refine l_q rfl (qm rfl s1_5 (l_q rfl (qm rfl (s8_5.n1) (l_q rfl (q_eql true rfl ((At.hit z5 rfl).n1).ev (At.hit z5.put rfl).ev (decide_eq_true (by omega)) (l_end (e_fr z5.p3 fun a6 z6 m6 => ?_))))))); have s0_6 := m6 s0_5.n3; have s1_6 := m6 s1_5.n3; have s2_6 := m6 s2_5.n3; have s7_6 := m6 s7_5.n3; have s8_6 := m6 s8_5.n3; have s22_6 := m6 (At.hit z5.p2 rfl); refine e_then (c_true s22_6 ?_); refine c_seq (c_region ?_); refine l_q rfl (qm rfl s0_6 (l_q rfl (qm rfl (s2_6.n1) (l_appFo (B := B) (vs := encP x) rfl rfl u_22 rec55 ((At.hit z6 rfl).n1).ev (At.hit z6.put rfl).ev kx rfl (by decide) rfl hv hB hl ?_)))); intro v7 w7 o7 gr7 ap7; refine l_q rfl (qa rfl (At.hit z6.p2 rfl) (l_end (e_fr z6.p4 fun a7 z7 m7 => ?_))); have s6_7 := m7 (At.hit z6.p3 rfl); refine e_then (wp_ret (ret_then (r_tmp rfl z7.defers s6_7 ?_))); subst hi; rw [end_row] at o7; exact ⟨_, rfl, o7.cast (by simp) rfl, gr7, ap7.imp (fun e => e) fun e => ⟨_, e, Nat.le_refl _⟩⟩
theorem Insert_grow.calls (B g c i : Nat) (l : List Rf) (x : Rf) (gx : Nat) (hl : l.length + 1 ≤ 1000000) (hi : i < l.length) (hc : c < l.length + 1) (w0 : World) (hv : OwnF w0 B 55 2 (.slice (some ⟨g, 0, none⟩) l.length c) l.length (l.map encP).flatten) (hlc : l.length ≤ c) (kx : w0.heap[gx]? = some (.cells #[.string x.f0, .string x.f1] 55)) (hgx : g ≠ gx) (hB : B ≤ w0.heap.size) : Calls Tryd.prog 30 #[.slice (some ⟨g, 0, none⟩) l.length c, .int .i64 i, .slice (some ⟨gx, 0, none⟩) 1 1] w0 fun e w' => ∃ v', e = .returned v' ∧ OwnF w' B 55 2 v' (l.take i ++ [x] ++ l.drop i).length ((l.take i ++ [x] ++ l.drop i).map encP).flatten ∧ GrW B 55 (.slice (some ⟨g, 0, none⟩) l.length c) w0 w' ∧ (v'.ownBlock = some g ∨ ∃ k, v'.ownBlock = some k ∧ w0.heap.size ≤ k) := by
 have hlt := OwnF.own_lt hv (k := g) rfl; refine c_fun (R := _) Tryd.func30 rfl 95 rfl (Nat.le_of_ble_eq_true rfl) ?_; intro a z hA; have s0 := hA 0 _ rfl; have s1 := hA 1 _ rfl; have s2 := hA 2 _ rfl; clear hA; refine c_seq (c_region ?_); refine l_q rfl (q_assign _ _ rfl rfl ?_); refine l_end (e_fr z.put fun a1 z1 m1 => ?_); have s0_1 := m1 s0.n1; have s1_1 := m1 s1.n1; have s2_1 := m1 s2.n1; refine e_then (c_seq (c_region ?_)); refine l_q rfl (qm rfl s0_1 (l_q rfl (qm rfl (s1_1.n1) (l_q rfl (q_cutF (i := i) rfl u_22 sz55 ((At.hit z1 rfl).n1).ev (At.hit z1.put rfl).ev hv.rd (by omega) (l_end (e_fr z1.p3 fun a2 z2 m2 => ?_))))))); have s0_2 := m2 s0_1.n3; have s1_2 := m2 s1_1.n3; have s2_2 := m2 s2_1.n3; refine e_then (c_seq (c_region ?_)); refine l_q rfl (qm rfl s2_2 (l_q rfl (q_lenL rfl rfl u_22 (At.hit z2 rfl).ev (l_q rfl (qa rfl (At.hit z2.put rfl) (l_end (e_fr z2.p3 fun a3 z3 m3 => ?_))))))); have s0_3 := m3 s0_2.n3; have s1_3 := m3 s1_2.n3; have s2_3 := m3 s2_2.n3; have s7_3 := m3 (At.hit z2.p2 rfl); refine e_then (c_seq (c_seq (c_region ?_))); refine l_q rfl (qm rfl s7_3 (l_q rfl (q_eql false rfl (At.hit z3 rfl).ev rfl (decide_eq_false (by omega)) (l_end (e_fr z3.p2 fun a4 z4 m4 => ?_))))); have s0_4 := m4 s0_3.n2; have s1_4 := m4 s1_3.n2; have s2_4 := m4 s2_3.n2; have s7_4 := m4 s7_3.n2; have s16_4 := m4 (At.hit z3.put rfl); refine e_then (c_false s16_4 ?_); refine wp_skip (e_then (c_seq (c_region ?_))); refine l_q rfl (qm rfl s0_4 (l_q rfl (q_lenL rfl rfl u_22 (At.hit z4 rfl).ev (l_q rfl (qa rfl (At.hit z4.put rfl) (l_end (e_fr z4.p3 fun a5 z5 m5 => ?_))))))); have s0_5 := m5 s0_4.n3; have s1_5 := m5 s1_4.n3; have s2_5 := m5 s2_4.n3; have s7_5 := m5 s7_4.n3; have s8_5 := m5 (At.hit z4.p2 rfl); refine e_then (c_seq (c_seq (c_region ?_))); refine l_q rfl (qm rfl s1_5 (l_q rfl (qm rfl (s8_5.n1) (l_q rfl (q_eql false rfl ((At.hit z5 rfl).n1).ev (At.hit z5.put rfl).ev (decide_eq_false (by omega)) (l_end (e_fr z5.p3 fun a6 z6 m6 => ?_))))))); have s0_6 := m6 s0_5.n3; have s1_6 := m6 s1_5.n3; have s2_6 := m6 s2_5.n3; have s7_6 := m6 s7_5.n3; have s8_6 := m6 s8_5.n3; have s22_6 := m6 (At.hit z5.p2 rfl); refine e_then (c_false s22_6 ?_); refine wp_skip (e_then (c_seq (c_seq (c_region ?_)))); refine l_q rfl (qm rfl s8_6 (l_q rfl (qm rfl (s7_6.n1) (l_q rfl (q_add (((l.length + 1 : Nat) : Int)) rfl ((At.hit z6 rfl).n1).ev (At.hit z6.put rfl).ev (i64_is (by omega) (by omega) (by omega)) (l_q rfl (qm rfl (s0_6.n3) (l_q rfl (q_capL rfl rfl u_22 (At.hit z6.p3 rfl).ev (l_q rfl (q_gtr true rfl ((At.hit z6.p2 rfl).n2).ev (At.hit z6.p4 rfl).ev (decide_eq_true (by omega)) (l_end (e_fr z6.p6 fun a7 z7 m7 => ?_))))))))))))); have s0_7 := m7 s0_6.n6; have s1_7 := m7 s1_6.n6; have s2_7 := m7 s2_6.n6; have s7_7 := m7 s7_6.n6; have s8_7 := m7 s8_6.n6; have s31_7 := m7 (At.hit z6.p5 rfl); refine e_then (c_true s31_7 ?_); refine c_seq (c_region ?_); refine l_q rfl (qm rfl s0_7 (l_q rfl (qm rfl (s1_7.n1) (l_q rfl (q_headS (h := i) rfl u_22 sz55 ((At.hit z7 rfl).n1).ev (At.hit z7.put rfl).ev (by omega) (l_q rfl (qm rfl (s8_7.n3) (l_q rfl (qm rfl (s7_7.n4) (l_q rfl (q_add (((l.length + 1 : Nat) : Int)) rfl ((At.hit z7.p3 rfl).n1).ev (At.hit z7.p4 rfl).ev (i64_is (by omega) (by omega) (by omega)) (l_q rfl (qm rfl (s1_7.n6) (l_q rfl (q_sub ((((l.length : Nat) : Int) + ((1 : Nat) : Int) - ((i : Nat) : Int))) rfl ((At.hit z7.p5 rfl).n1).ev (At.hit z7.p6 rfl).ev (i64_is (by omega) (by omega) (by omega)) (l_appZ (m := (l.length + 1) - i) rfl rfl u_22 u_3 rec55 (by decide) (((At.hit z7.p2 rfl).n5).ev.trans (head_some _ _ _ _).symm) ((At.hit z7.p7 rfl).same (congrArg (Value.int .i64) (show ((((l.length : Nat) : Int) + ((1 : Nat) : Int) - ((i : Nat) : Int)) : Int) = (((l.length + 1) - i : Nat) : Int) by omega))).ev hv (by omega) (by omega) (by omega) (by omega) ?_))))))))))))))))
 intro h9 G9 zs9 w9 hg9 hz9 o9 lw9; have ow8 := OwnF.low hv lw9; have kgx_8 := lw9.blk kx; have hne9 : g ≠ h9 ∧ gx ≠ h9 := ⟨Nat.ne_of_lt (Nat.lt_of_lt_of_le hlt hg9), Nat.ne_of_lt (Nat.lt_of_lt_of_le (heap_lt kx) hg9)⟩; refine l_fr z7.p9 fun a9 z9 m9 => ?_
 have s0_9 := m9 s0_7.n9; have s1_9 := m9 s1_7.n9; have s2_9 := m9 s2_7.n9; have s7_9 := m9 s7_7.n9; have s40_9 := m9 (At.hit z7.p8 rfl); refine l_q rfl (qa rfl s40_9 (l_end (e_fr z9.put fun a10 z10 m10 => ?_))); have s0_10 := m10 s0_9.n1; have s1_10 := m10 s1_9.n1; have s2_10 := m10 s2_9.n1; have s7_10 := m10 s7_9.n1; have s9_10 := m10 (At.hit z9 rfl); have low10 := lw9; refine e_then (c_seq (c_region ?_)); refine l_q rfl (qm rfl s9_10 (l_q rfl (qm rfl (s1_10.n1) (l_q rfl (q_cutF (i := i) rfl u_22 sz55 ((At.hit z10 rfl).n1).ev (At.hit z10.put rfl).ev o9.rd (by omega) (l_q rfl (qm rfl (s2_10.n3) (l_copyF (i := i) (k := 1) (m := 1) (ds := encP x) rfl rfl u_22 sz55 ((At.hit z10.p2 rfl).n1).ev rfl (At.hit z10.p3 rfl).ev o9 (rdF_rec kgx_8 rfl : RdF _ 2 _ 1 (encP x)) (by omega) (by omega) (by simp only [Nat.min_def]; split <;> omega) (fun u hu => encP_one x u (List.mem_of_mem_take hu)) ?_)))))))); intro w11 o11 gr11; have kgx_11 := GrW.blka gr11 kgx_8 (fun k hk e => by simp [Value.ownBlock] at hk; omega); have lo11 := low10.grw gr11; refine l_end (e_fr z10.p5 fun a12 z12 m12 => ?_); have s0_12 := m12 s0_10.n5; have s1_12 := m12 s1_10.n5; have s7_12 := m12 s7_10.n5; have s9_12 := m12 s9_10.n5; have low12 := lo11; refine e_then (c_seq (region_some_tail 8 (TL [Is (.slice (some ⟨h9, 0, none⟩) (i + (l.length + 1 - i)) G9), Is (.int .i64 ((i : Nat) : Int)), Is (.int .i64 ((1 : Nat) : Int)), Is (.int .i64 ((i + 1 : Nat) : Int)), Is (cutF (.slice (some ⟨h9, 0, none⟩) (i + (l.length + 1 - i)) G9) (i + 1) 2), Is (.slice (some ⟨g, 0, none⟩) l.length c), Is (.int .i64 ((i : Nat) : Int)), Is (cutF (.slice (some ⟨g, 0, none⟩) l.length c) (i) 2)]) Low hm (by kernel_rfl) z12 (low_drawn _) (fun _ _ _ h k => Low.trans h k) (TL_cons ?_ (TL_cons ?_ (TL_cons ?_ (TL_cons ?_ (TL_cons ?_ (TL_cons ?_ (TL_cons ?_ (TL_cons ?_ TL_nil)))))))) (allS_cons ?_ (allS_cons ?_ (allS_cons ?_ (allS_cons ?_ (allS_cons ?_ (allS_cons ?_ (allS_cons ?_ (allS_cons ?_ allS_nil)))))))) ?_))
 ·
  exact StL_is _
 ·
  exact StL_is _
 ·
  exact StL_is _
 ·
  exact StL_is _
 ·
  exact StL_is _
 ·
  exact StL_is _
 ·
  exact StL_is _
 ·
  exact StL_is _
 ·
  exact (stepS_val (.slice (some ⟨h9, 0, none⟩) (i + (l.length + 1 - i)) G9) _ rfl rfl rfl Low.refl (fun _ => rfl) fun a w z lw kp kn => qm rfl (kp _ _ rfl s9_12) rfl)
 ·
  exact (stepS_val (.int .i64 ((i : Nat) : Int)) _ rfl rfl rfl Low.refl (fun _ => rfl) fun a w z lw kp kn => qm rfl (kp _ _ rfl s1_12) rfl)
 ·
  exact (stepS_val (.int .i64 ((1 : Nat) : Int)) _ rfl rfl rfl Low.refl (fun _ => rfl) fun a w z lw kp kn => qm rfl (kp _ _ rfl s7_12) rfl)
 ·
  exact (stepS_val (.int .i64 ((i + 1 : Nat) : Int)) _ rfl rfl rfl Low.refl (fun _ => rfl) fun a w z lw kp kn => q_add (((i + 1 : Nat) : Int)) rfl (at_is (u := .int .i64 ((i : Nat) : Int)) (w := w) (kn 1 _ rfl rfl)).ev (at_is (u := .int .i64 ((1 : Nat) : Int)) (w := w) (kn 2 _ rfl rfl)).ev (i64_is (by omega) (by omega) (by omega)) rfl)
 ·
  exact (stepS_val (cutF (.slice (some ⟨h9, 0, none⟩) (i + (l.length + 1 - i)) G9) (i + 1) 2) _ rfl rfl rfl Low.refl (fun _ => rfl) fun a w z lw kp kn => q_cutF (i := i + 1) rfl u_22 sz55 (at_is (u := .slice (some ⟨h9, 0, none⟩) (i + (l.length + 1 - i)) G9) (w := w) (kn 0 _ rfl rfl)).ev (at_is (u := .int .i64 ((i + 1 : Nat) : Int)) (w := w) (kn 3 _ rfl rfl)).ev o11.rd (by omega) rfl)
 ·
  exact (stepS_val (.slice (some ⟨g, 0, none⟩) l.length c) _ rfl rfl rfl Low.refl (fun _ => rfl) fun a w z lw kp kn => qm rfl (kp _ _ rfl s0_12) rfl)
 ·
  exact (stepS_val (.int .i64 ((i : Nat) : Int)) _ rfl rfl rfl Low.refl (fun _ => rfl) fun a w z lw kp kn => qm rfl (kp _ _ rfl s1_12) rfl)
 ·
  exact (stepS_val (cutF (.slice (some ⟨g, 0, none⟩) l.length c) (i) 2) _ rfl rfl rfl Low.refl (fun _ => rfl) fun a w z lw kp kn => q_cutF (i := i) rfl u_22 sz55 (at_is (u := .slice (some ⟨g, 0, none⟩) l.length c) (w := w) (kn 5 _ rfl rfl)).ev (at_is (u := .int .i64 ((i : Nat) : Int)) (w := w) (kn 6 _ rfl rfl)).ev (OwnF.low hv lo11).rd (by omega) rfl)
 intro a13 w13 z13 h13 kp kn; have s0_13 := kp _ _ rfl s0_12; have s1_13 := kp _ _ rfl s1_12; have s7_13 := kp _ _ rfl s7_12; have s9_13 := kp _ _ rfl s9_12; have s50_13 := at_is (u := cutF (.slice (some ⟨h9, 0, none⟩) (i + (l.length + 1 - i)) G9) (i + 1) 2) (w := w13) (kn 4 _ rfl); have s53_13 := at_is (u := cutF (.slice (some ⟨g, 0, none⟩) l.length c) (i) 2) (w := w13) (kn 7 _ rfl); have ow14 := OwnF.low (OwnF.low hv lo11) h13; have ow15 := OwnF.low o11 h13; have kgx_15 := h13.blk kgx_11; clear kp kn
 simp only [List.drop_succ_cons, List.drop_zero]
 refine l_copyF (i := i + 1) (k := l.length - i) (m := l.length - (i)) (ds := ((l.map encP).flatten).drop ((i) * 2)) rfl rfl u_22 sz55 s50_13.ev rfl s53_13.ev ow15 (ow14.rd.cut (i) (by omega)) (by omega) (by omega) (by simp only [Nat.min_def]; split <;> omega) (fun u hu => flat_one encP_one _ u (List.mem_of_mem_drop (List.mem_of_mem_take hu))) ?_; intro w16 o16 gr16; have kgx_16 := GrW.blka gr16 kgx_15 (fun k hk e => by simp [Value.ownBlock] at hk; omega); have lo16 := (low12.trans h13).grw gr16; refine l_end (e_fr z13.put fun a17 z17 m17 => ?_); have s9_17 := m17 s9_13.n1; have low17 := lo16; refine e_then (c_seq (c_region ?_)); refine l_q rfl (qm rfl s9_17 (l_q rfl (qa rfl (At.hit z17 rfl) (l_end (e_fr z17.p2 fun a18 z18 m18 => ?_))))); have s6_18 := m18 (At.hit z17.put rfl); refine e_then (wp_ret (ret_then (r_tmp rfl z18.defers s6_18 ?_))); exact ⟨_, rfl, (OwnF.base o16 hB).cast (by simp; omega) (ins_grow l i x zs9 hi hz9), GrW.ofLow low17 hv.anyB, .inr ⟨_, rfl, hg9⟩⟩
theorem Insert_room.calls (B g c i : Nat) (l : List Rf) (x : Rf) (gx : Nat) (hl : l.length + 1 ≤ 1000000) (hi : i < l.length) (hc : l.length + 1 ≤ c) (w0 : World) (hv : OwnF w0 B 55 2 (.slice (some ⟨g, 0, none⟩) l.length c) l.length (l.map encP).flatten) (hlc : l.length ≤ c) (kx : w0.heap[gx]? = some (.cells #[.string x.f0, .string x.f1] 55)) (hgx : g ≠ gx) (hB : B ≤ w0.heap.size) : Calls Tryd.prog 30 #[.slice (some ⟨g, 0, none⟩) l.length c, .int .i64 i, .slice (some ⟨gx, 0, none⟩) 1 1] w0 fun e w' => ∃ v', e = .returned v' ∧ OwnF w' B 55 2 v' (l.take i ++ [x] ++ l.drop i).length ((l.take i ++ [x] ++ l.drop i).map encP).flatten ∧ GrW B 55 (.slice (some ⟨g, 0, none⟩) l.length c) w0 w' ∧ (v'.ownBlock = some g ∨ ∃ k, v'.ownBlock = some k ∧ w0.heap.size ≤ k) := by
 have hlt := OwnF.own_lt hv (k := g) rfl; refine c_fun (R := _) Tryd.func30 rfl 95 rfl (Nat.le_of_ble_eq_true rfl) ?_; intro a z hA; have s0 := hA 0 _ rfl; have s1 := hA 1 _ rfl; have s2 := hA 2 _ rfl; clear hA; refine c_seq (c_region ?_); refine l_q rfl (q_assign _ _ rfl rfl ?_); refine l_end (e_fr z.put fun a1 z1 m1 => ?_); have s0_1 := m1 s0.n1; have s1_1 := m1 s1.n1; have s2_1 := m1 s2.n1; refine e_then (c_seq (c_region ?_)); refine l_q rfl (qm rfl s0_1 (l_q rfl (qm rfl (s1_1.n1) (l_q rfl (q_cutF (i := i) rfl u_22 sz55 ((At.hit z1 rfl).n1).ev (At.hit z1.put rfl).ev hv.rd (by omega) (l_end (e_fr z1.p3 fun a2 z2 m2 => ?_))))))); have s0_2 := m2 s0_1.n3; have s1_2 := m2 s1_1.n3; have s2_2 := m2 s2_1.n3; refine e_then (c_seq (c_region ?_)); refine l_q rfl (qm rfl s2_2 (l_q rfl (q_lenL rfl rfl u_22 (At.hit z2 rfl).ev (l_q rfl (qa rfl (At.hit z2.put rfl) (l_end (e_fr z2.p3 fun a3 z3 m3 => ?_))))))); have s0_3 := m3 s0_2.n3; have s1_3 := m3 s1_2.n3; have s2_3 := m3 s2_2.n3; have s7_3 := m3 (At.hit z2.p2 rfl); refine e_then (c_seq (c_seq (c_region ?_))); refine l_q rfl (qm rfl s7_3 (l_q rfl (q_eql false rfl (At.hit z3 rfl).ev rfl (decide_eq_false (by omega)) (l_end (e_fr z3.p2 fun a4 z4 m4 => ?_))))); have s0_4 := m4 s0_3.n2; have s1_4 := m4 s1_3.n2; have s2_4 := m4 s2_3.n2; have s7_4 := m4 s7_3.n2; have s16_4 := m4 (At.hit z3.put rfl); refine e_then (c_false s16_4 ?_); refine wp_skip (e_then (c_seq (c_region ?_))); refine l_q rfl (qm rfl s0_4 (l_q rfl (q_lenL rfl rfl u_22 (At.hit z4 rfl).ev (l_q rfl (qa rfl (At.hit z4.put rfl) (l_end (e_fr z4.p3 fun a5 z5 m5 => ?_))))))); have s0_5 := m5 s0_4.n3; have s1_5 := m5 s1_4.n3; have s2_5 := m5 s2_4.n3; have s7_5 := m5 s7_4.n3; have s8_5 := m5 (At.hit z4.p2 rfl); refine e_then (c_seq (c_seq (c_region ?_))); refine l_q rfl (qm rfl s1_5 (l_q rfl (qm rfl (s8_5.n1) (l_q rfl (q_eql false rfl ((At.hit z5 rfl).n1).ev (At.hit z5.put rfl).ev (decide_eq_false (by omega)) (l_end (e_fr z5.p3 fun a6 z6 m6 => ?_))))))); have s0_6 := m6 s0_5.n3; have s1_6 := m6 s1_5.n3; have s2_6 := m6 s2_5.n3; have s7_6 := m6 s7_5.n3; have s8_6 := m6 s8_5.n3; have s22_6 := m6 (At.hit z5.p2 rfl); refine e_then (c_false s22_6 ?_); refine wp_skip (e_then (c_seq (c_seq (c_region ?_)))); refine l_q rfl (qm rfl s8_6 (l_q rfl (qm rfl (s7_6.n1) (l_q rfl (q_add (((l.length + 1 : Nat) : Int)) rfl ((At.hit z6 rfl).n1).ev (At.hit z6.put rfl).ev (i64_is (by omega) (by omega) (by omega)) (l_q rfl (qm rfl (s0_6.n3) (l_q rfl (q_capL rfl rfl u_22 (At.hit z6.p3 rfl).ev (l_q rfl (q_gtr false rfl ((At.hit z6.p2 rfl).n2).ev (At.hit z6.p4 rfl).ev (decide_eq_false (by omega)) (l_end (e_fr z6.p6 fun a7 z7 m7 => ?_))))))))))))); have s0_7 := m7 s0_6.n6; have s1_7 := m7 s1_6.n6; have s2_7 := m7 s2_6.n6; have s7_7 := m7 s7_6.n6; have s8_7 := m7 s8_6.n6; have s31_7 := m7 (At.hit z6.p5 rfl); refine e_then (c_false s31_7 ?_); refine wp_skip (e_then (c_seq ?_)); obtain ⟨xs, hxs, om⟩ := hv.more (h := l.length + 1) (by omega) (by omega); refine c_region ?_; refine l_q rfl (qm rfl s0_7 (l_q rfl (qm rfl (s8_7.n1) (l_q rfl (qm rfl (s7_7.n2) (l_q rfl (q_add (((l.length + 1 : Nat) : Int)) rfl ((At.hit z7.put rfl).n1).ev (At.hit z7.p2 rfl).ev (i64_is (by omega) (by omega) (by omega)) (l_q rfl (q_headS (h := l.length + 1) rfl u_22 sz55 ((At.hit z7 rfl).n3).ev (At.hit z7.p3 rfl).ev (by omega) (l_q rfl (qa rfl (At.hit z7.p4 rfl) (l_end (e_fr z7.p6 fun a8 z8 m8 => ?_)))))))))))))
 have s0_8 := m8 (At.hit z7.p5 rfl); have s1_8 := m8 s1_7.n6; have s2_8 := m8 s2_7.n6; have s7_8 := m8 s7_7.n6; have s8_8 := m8 s8_7.n6; refine e_then (c_seq (c_seq (c_region ?_))); refine l_q rfl (qm rfl s2_8 (l_q rfl (qm rfl (s0_8.n1) (l_q rfl (qm rfl (s1_8.n2) (l_q rfl (qm rfl (s7_8.n3) (l_q rfl (q_add (((i + 1 : Nat) : Int)) rfl ((At.hit z8.p2 rfl).n1).ev (At.hit z8.p3 rfl).ev (i64_is (by omega) (by omega) (by omega)) (l_q rfl (q_cutF (i := i + 1) rfl u_22 sz55 ((At.hit z8.put rfl).n3).ev (At.hit z8.p4 rfl).ev om.rd (by omega) ?_))))))))))); obtain ⟨_, cur, fz, hcur⟩ := OwnF.anyB hv g rfl
 rcases hv.2 with ⟨e0, _⟩ | ⟨g1, cap1, cur1, e0, _, hh1, _, _, hs1, _⟩
 ·
  cases e0
 obtain ⟨rfl, rfl⟩ : g = g1 ∧ c = cap1 := by simpa using e0
 refine l_q rfl (q_apart (p := ⟨gx, 0, none⟩) (q := ⟨g, (i + 1) * 2, none⟩) (sz := 2) rfl rfl Tryd.func59 rfl rfl rfl rfl u_22 sz55 (args2 rfl ((At.hit z8 rfl).n5).ev ((At.hit z8.p5 rfl).ev.trans (cut_some _ _ _ _ _ (by omega)))) (fun e => hgx e.symm) (fun _ e => by rw [e]; exact kx) (fun _ e => by rw [e]; exact hh1) (by omega) ?_); refine l_q rfl (q_not (b := false) rfl (At.hit z8.p6 rfl).ev ?_); refine l_end (e_fr z8.p8 fun a9 z9 m9 => ?_); have s0_9 := m9 s0_8.n8; have s1_9 := m9 s1_8.n8; have s2_9 := m9 s2_8.n8; have s7_9 := m9 s7_8.n8; have s8_9 := m9 s8_8.n8; have s68_9 := m9 (At.hit z8.p7 rfl); refine e_then (c_true s68_9 ?_); refine c_seq (region_some_tail 8 (TL [Is (.slice (some ⟨g, 0, none⟩) (l.length + 1) c), Is (.int .i64 ((i : Nat) : Int)), Is (.int .i64 ((1 : Nat) : Int)), Is (.int .i64 ((i + 1 : Nat) : Int)), Is (cutF (.slice (some ⟨g, 0, none⟩) (l.length + 1) c) (i + 1) 2), Is (.slice (some ⟨g, 0, none⟩) (l.length + 1) c), Is (.int .i64 ((i : Nat) : Int)), Is (cutF (.slice (some ⟨g, 0, none⟩) (l.length + 1) c) (i) 2)]) Low hm (by kernel_rfl) z9 (low_drawn _) (fun _ _ _ h k => Low.trans h k) (TL_cons ?_ (TL_cons ?_ (TL_cons ?_ (TL_cons ?_ (TL_cons ?_ (TL_cons ?_ (TL_cons ?_ (TL_cons ?_ TL_nil)))))))) (allS_cons ?_ (allS_cons ?_ (allS_cons ?_ (allS_cons ?_ (allS_cons ?_ (allS_cons ?_ (allS_cons ?_ (allS_cons ?_ allS_nil)))))))) ?_)
 ·
  exact StL_is _
 ·
  exact StL_is _
 ·
  exact StL_is _
 ·
  exact StL_is _
 ·
  exact StL_is _
 ·
  exact StL_is _
 ·
  exact StL_is _
 ·
  exact StL_is _
 ·
  exact (stepS_val (.slice (some ⟨g, 0, none⟩) (l.length + 1) c) _ rfl rfl rfl Low.refl (fun _ => rfl) fun a w z lw kp kn => qm rfl (kp _ _ rfl s0_9) rfl)
 ·
  exact (stepS_val (.int .i64 ((i : Nat) : Int)) _ rfl rfl rfl Low.refl (fun _ => rfl) fun a w z lw kp kn => qm rfl (kp _ _ rfl s1_9) rfl)
 ·
  exact (stepS_val (.int .i64 ((1 : Nat) : Int)) _ rfl rfl rfl Low.refl (fun _ => rfl) fun a w z lw kp kn => qm rfl (kp _ _ rfl s7_9) rfl)
 ·
  exact (stepS_val (.int .i64 ((i + 1 : Nat) : Int)) _ rfl rfl rfl Low.refl (fun _ => rfl) fun a w z lw kp kn => q_add (((i + 1 : Nat) : Int)) rfl (at_is (u := .int .i64 ((i : Nat) : Int)) (w := w) (kn 1 _ rfl rfl)).ev (at_is (u := .int .i64 ((1 : Nat) : Int)) (w := w) (kn 2 _ rfl rfl)).ev (i64_is (by omega) (by omega) (by omega)) rfl)
 ·
  exact (stepS_val (cutF (.slice (some ⟨g, 0, none⟩) (l.length + 1) c) (i + 1) 2) _ rfl rfl rfl Low.refl (fun _ => rfl) fun a w z lw kp kn => q_cutF (i := i + 1) rfl u_22 sz55 (at_is (u := .slice (some ⟨g, 0, none⟩) (l.length + 1) c) (w := w) (kn 0 _ rfl rfl)).ev (at_is (u := .int .i64 ((i + 1 : Nat) : Int)) (w := w) (kn 3 _ rfl rfl)).ev om.rd (by omega) rfl)
 ·
  exact (stepS_val (.slice (some ⟨g, 0, none⟩) (l.length + 1) c) _ rfl rfl rfl Low.refl (fun _ => rfl) fun a w z lw kp kn => qm rfl (kp _ _ rfl s0_9) rfl)
 ·
  exact (stepS_val (.int .i64 ((i : Nat) : Int)) _ rfl rfl rfl Low.refl (fun _ => rfl) fun a w z lw kp kn => qm rfl (kp _ _ rfl s1_9) rfl)
 ·
  exact (stepS_val (cutF (.slice (some ⟨g, 0, none⟩) (l.length + 1) c) (i) 2) _ rfl rfl rfl Low.refl (fun _ => rfl) fun a w z lw kp kn => q_cutF (i := i) rfl u_22 sz55 (at_is (u := .slice (some ⟨g, 0, none⟩) (l.length + 1) c) (w := w) (kn 5 _ rfl rfl)).ev (at_is (u := .int .i64 ((i : Nat) : Int)) (w := w) (kn 6 _ rfl rfl)).ev om.rd (by omega) rfl)
 intro a10 w10 z10 h10 kp kn; have s0_10 := kp _ _ rfl s0_9; have s1_10 := kp _ _ rfl s1_9; have s2_10 := kp _ _ rfl s2_9; have s7_10 := kp _ _ rfl s7_9; have s8_10 := kp _ _ rfl s8_9; have s68_10 := kp _ _ rfl s68_9; have s73_10 := at_is (u := cutF (.slice (some ⟨g, 0, none⟩) (l.length + 1) c) (i + 1) 2) (w := w10) (kn 4 _ rfl); have s76_10 := at_is (u := cutF (.slice (some ⟨g, 0, none⟩) (l.length + 1) c) (i) 2) (w := w10) (kn 7 _ rfl); have ow11 := OwnF.low om h10; have kgx_11 := h10.blk kx; clear kp kn
 simp only [List.drop_succ_cons, List.drop_zero]
 refine l_copyF (i := i + 1) (k := l.length - i) (m := (l.length + 1) - (i)) (ds := ((l.map encP).flatten ++ xs).drop ((i) * 2)) rfl rfl u_22 sz55 s73_10.ev rfl s76_10.ev ow11 (ow11.rd.cut (i) (by omega)) (by omega) (by omega) (by simp only [Nat.min_def]; split <;> omega) (fun u hu => flat_one encP_one (l.drop i) u (by rw [List.drop_append_of_le_length (by rw [flat_len encP_len]; omega), List.take_append_of_le_length (by rw [List.length_drop, flat_len encP_len]; omega), flat_drop encP_len l i (by omega)] at hu; exact List.mem_of_mem_take hu)) ?_; intro w12 o12 gr12; have kgx_12 := GrW.blka gr12 kgx_11 (fun k hk e => by simp [Value.ownBlock] at hk; omega); refine l_end (e_fr z10.put fun a13 z13 m13 => ?_); have s0_13 := m13 s0_10.n1; have s1_13 := m13 s1_10.n1; have s2_13 := m13 s2_10.n1; refine e_then (c_seq (c_region ?_)); refine l_q rfl (qm rfl s0_13 (l_q rfl (qm rfl (s1_13.n1) (l_q rfl (q_cutF (i := i) rfl u_22 sz55 ((At.hit z13 rfl).n1).ev (At.hit z13.put rfl).ev o12.rd (by omega) (l_q rfl (qm rfl (s2_13.n3) (l_copyF (i := i) (k := 1) (m := 1) (ds := encP x) rfl rfl u_22 sz55 ((At.hit z13.p2 rfl).n1).ev rfl (At.hit z13.p3 rfl).ev o12 (rdF_rec kgx_12 rfl : RdF _ 2 _ 1 (encP x)) (by omega) (by omega) (by simp only [Nat.min_def]; split <;> omega) (fun u hu => encP_one x u (List.mem_of_mem_take hu)) ?_)))))))); intro w14 o14 gr14; have kgx_14 := GrW.blka gr14 kgx_12 (fun k hk e => by simp [Value.ownBlock] at hk; omega); refine l_end (e_fr z13.p5 fun a15 z15 m15 => ?_); have s0_15 := m15 s0_13.n5; refine e_then (c_seq (c_region ?_)); refine l_q rfl (qm rfl s0_15 (l_q rfl (qa rfl (At.hit z15 rfl) (l_end (e_fr z15.p2 fun a16 z16 m16 => ?_))))); have s6_16 := m16 (At.hit z15.put rfl); refine e_then (wp_ret (ret_then (r_tmp rfl z16.defers s6_16 ?_))); exact ⟨_, rfl, o14.cast (by simp; omega) (ins_room l i x xs hi hxs), GrW.after (GrW.after (GrW.ofLow h10 hv.anyB) gr12 rfl) gr14 rfl, .inl rfl⟩
theorem Insert_nil.calls (B : Nat) (x : Rf) (gx : Nat) (w0 : World) (kx : w0.heap[gx]? = some (.cells #[.string x.f0, .string x.f1] 55)) (hB : B ≤ w0.heap.size) : Calls Tryd.prog 30 #[.slice none 0 0, .int .i64 0, .slice (some ⟨gx, 0, none⟩) 1 1] w0 fun e w' => ∃ v', e = .returned v' ∧ OwnF w' B 55 2 v' 1 (encP x) ∧ GrW B 55 (.slice none 0 0) w0 w' ∧ (v'.ownBlock = none ∨ ∃ k, v'.ownBlock = some k ∧ w0.heap.size ≤ k) := by
 refine c_fun (R := _) Tryd.func30 rfl 95 rfl (Nat.le_of_ble_eq_true rfl) ?_; intro a z hA; have s0 := hA 0 _ rfl; have s1 := hA 1 _ rfl; have s2 := hA 2 _ rfl; clear hA; refine c_seq (c_region ?_); refine l_q rfl (q_assign _ _ rfl rfl ?_); refine l_end (e_fr z.put fun a1 z1 m1 => ?_); have s0_1 := m1 s0.n1; have s1_1 := m1 s1.n1; have s2_1 := m1 s2.n1; refine e_then (c_seq (c_region ?_)); refine l_q rfl (qm rfl s0_1 (l_q rfl (qm rfl (s1_1.n1) (l_q rfl (q_cutF (i := 0) rfl u_22 sz55 ((At.hit z1 rfl).n1).ev ((At.hit z1.put rfl).same (congrArg (Value.int .i64) (show (0 : Int) = ((0 : Nat) : Int) by omega))).ev (OwnF.nil w0 B 55 2).rd (by omega) (l_end (e_fr z1.p3 fun a2 z2 m2 => ?_))))))); have s0_2 := m2 s0_1.n3; have s1_2 := m2 s1_1.n3; have s2_2 := m2 s2_1.n3; refine e_then (c_seq (c_region ?_)); refine l_q rfl (qm rfl s2_2 (l_q rfl (q_lenL rfl rfl u_22 (At.hit z2 rfl).ev (l_q rfl (qa rfl (At.hit z2.put rfl) (l_end (e_fr z2.p3 fun a3 z3 m3 => ?_))))))); have s0_3 := m3 s0_2.n3; have s1_3 := m3 s1_2.n3; have s2_3 := m3 s2_2.n3; have s7_3 := m3 (At.hit z2.p2 rfl); refine e_then (c_seq (c_seq (c_region ?_))); refine l_q rfl (qm rfl s7_3 (l_q rfl (q_eql false rfl (At.hit z3 rfl).ev rfl (decide_eq_false (by omega)) (l_end (e_fr z3.p2 fun a4 z4 m4 => ?_))))); have s0_4 := m4 s0_3.n2; have s1_4 := m4 s1_3.n2; have s2_4 := m4 s2_3.n2; have s7_4 := m4 s7_3.n2; have s16_4 := m4 (At.hit z3.put rfl); refine e_then (c_false s16_4 ?_); refine wp_skip (e_then (c_seq (c_region ?_))); refine l_q rfl (qm rfl s0_4 (l_q rfl (q_lenL rfl rfl u_22 (At.hit z4 rfl).ev (l_q rfl (qa rfl (At.hit z4.put rfl) (l_end (e_fr z4.p3 fun a5 z5 m5 => ?_))))))); have s0_5 := m5 s0_4.n3; have s1_5 := m5 s1_4.n3; have s2_5 := m5 s2_4.n3; have s7_5 := m5 s7_4.n3; have s8_5 := m5 (At.hit z4.p2 rfl); refine e_then (c_seq (c_seq (c_region ?_))); refine l_q rfl (qm rfl s1_5 (l_q rfl (qm rfl (s8_5.n1) (l_q rfl (q_eql true rfl ((At.hit z5 rfl).n1).ev (At.hit z5.put rfl).ev (decide_eq_true (by omega)) (l_end (e_fr z5.p3 fun a6 z6 m6 => ?_))))))); have s0_6 := m6 s0_5.n3; have s1_6 := m6 s1_5.n3; have s2_6 := m6 s2_5.n3; have s7_6 := m6 s7_5.n3; have s8_6 := m6 s8_5.n3; have s22_6 := m6 (At.hit z5.p2 rfl); refine e_then (c_true s22_6 ?_); refine c_seq (c_region ?_); refine l_q rfl (qm rfl s0_6 (l_q rfl (qm rfl (s2_6.n1) (l_appFo (B := B) (vs := encP x) rfl rfl u_22 rec55 ((At.hit z6 rfl).n1).ev (At.hit z6.put rfl).ev kx rfl (by decide) rfl (OwnF.nil _ B 55 2) hB (by decide) ?_)))); intro v7 w7 o7 gr7 ap7; refine l_q rfl (qa rfl (At.hit z6.p2 rfl) (l_end (e_fr z6.p4 fun a7 z7 m7 => ?_))); have s6_7 := m7 (At.hit z6.p3 rfl); refine e_then (wp_ret (ret_then (r_tmp rfl z7.defers s6_7 ?_))); exact ⟨_, rfl, o7, gr7, ap7.elim (fun e => .inl e) fun e => .inr ⟨_, e, Nat.le_refl _⟩⟩
theorem Insert.calls (B i : Nat) (v : Value) (l : List Rf) (x : Rf) (gx : Nat) (hl : l.length + 1 ≤ 1000000) (hi : i ≤ l.length) (w0 : World) (hv : OwnF w0 B 55 2 v l.length (l.map encP).flatten) (kx : w0.heap[gx]? = some (.cells #[.string x.f0, .string x.f1] 55)) (hgx : v.ownBlock ≠ some gx) (hB : B ≤ w0.heap.size) :
    Calls Tryd.prog 30 #[v, .int .i64 i, .slice (some ⟨gx, 0, none⟩) 1 1] w0 fun e w' => ∃ v', e = .returned v' ∧ OwnF w' B 55 2 v' (l.take i ++ [x] ++ l.drop i).length ((l.take i ++ [x] ++ l.drop i).map encP).flatten ∧ GrW B 55 v w0 w' ∧ (v'.ownBlock = v.ownBlock ∨ ∃ k, v'.ownBlock = some k ∧ w0.heap.size ≤ k) := by
  have h0 := hv
  rcases hv.2 with ⟨rfl, hn⟩ | ⟨g, c, cur, rfl, hg, hh, hlc, _⟩
  · obtain rfl : l = [] := List.eq_nil_of_length_eq_zero hn
    obtain rfl : i = 0 := by simpa using hi
    refine (Insert_nil.calls B x gx w0 kx hB).mono fun e w' ⟨v', he, o, gr, ap⟩ => ⟨v', he, o.cast rfl (by simp), gr, ap⟩
  · have hne : g ≠ gx := fun e => hgx (by rw [e]; rfl)
    rcases Nat.lt_or_ge i l.length with h | h
    · rcases Nat.lt_or_ge c (l.length + 1) with h2 | h2
      · exact Insert_grow.calls B g c i l x gx hl h h2 w0 h0 hlc kx hne hB
      · exact Insert_room.calls B g c i l x gx hl h h2 w0 h0 hlc kx hne hB
    · exact Insert_end.calls B g c i l x gx hl (by omega) w0 h0 hlc kx hne hB
theorem Delete_.calls (B g c i : Nat) (l : List Rf) (hl : l.length + 1 ≤ 1000000) (hi : i < l.length) (w0 : World) (hv : OwnF w0 B 55 2 (.slice (some ⟨g, 0, none⟩) l.length c) l.length (l.map encP).flatten) (hlc : l.length ≤ c) (hB : B ≤ w0.heap.size) : Calls Tryd.prog 29 #[.slice (some ⟨g, 0, none⟩) l.length c, .int .i64 i, .int .i64 ((i + 1 : Nat) : Int)] w0 fun e w' => ∃ v', e = .returned v' ∧ OwnF w' B 55 2 v' (l.take i ++ l.drop (i + 1)).length ((l.take i ++ l.drop (i + 1)).map encP).flatten ∧ GrW B 55 (.slice (some ⟨g, 0, none⟩) l.length c) w0 w' ∧ v'.ownBlock = some g := by
 refine c_fun (R := _) Tryd.func29 rfl 33 rfl (Nat.le_of_ble_eq_true rfl) ?_; intro a z hA; have s0 := hA 0 _ rfl; have s1 := hA 1 _ rfl; have s2 := hA 2 _ rfl; clear hA; refine c_seq (c_region ?_); refine l_q rfl (q_assign _ _ rfl rfl ?_); refine l_end (e_fr z.put fun a1 z1 m1 => ?_); have s0_1 := m1 s0.n1; have s1_1 := m1 s1.n1; have s2_1 := m1 s2.n1; refine e_then (c_seq (c_region ?_)); refine l_q rfl (qm rfl s0_1 (l_q rfl (qm rfl (s1_1.n1) (l_q rfl (qm rfl (s2_1.n2) (l_q rfl (qm rfl (s0_1.n3) (l_q rfl (q_lenL rfl rfl u_22 (At.hit z1.p3 rfl).ev (l_q rfl (q_maxF (l := i) (h := i + 1) (m := l.length) rfl u_22 sz55 ((At.hit z1 rfl).n4).ev ((At.hit z1.put rfl).n3).ev ((At.hit z1.p2 rfl).n2).ev (At.hit z1.p4 rfl).ev (by omega) (by omega) (by omega) (fun u1 => (l_end (e_fr z1.p6 fun a2 z2 m2 => ?_)))))))))))))); have s0_2 := m2 s0_1.n6; have s1_2 := m2 s1_1.n6; have s2_2 := m2 s2_1.n6; refine e_then (c_seq (c_seq (c_region ?_))); refine l_q rfl (qm rfl s1_2 (l_q rfl (qm rfl (s2_2.n1) (l_q rfl (q_eql false rfl ((At.hit z2 rfl).n1).ev (At.hit z2.put rfl).ev (decide_eq_false (by omega)) (l_end (e_fr z2.p3 fun a3 z3 m3 => ?_))))))); have s0_3 := m3 s0_2.n3; have s1_3 := m3 s1_2.n3; have s2_3 := m3 s2_2.n3; have s16_3 := m3 (At.hit z2.p2 rfl); refine e_then (c_false s16_3 ?_); refine wp_skip (e_then (c_seq (c_region ?_))); refine l_q rfl (qm rfl s0_3 (l_q rfl (q_lenL rfl rfl u_22 (At.hit z3 rfl).ev (l_q rfl (qa rfl (At.hit z3.put rfl) (l_end (e_fr z3.p3 fun a4 z4 m4 => ?_))))))); have s0_4 := m4 s0_3.n3; have s1_4 := m4 s1_3.n3; have s2_4 := m4 s2_3.n3; have s7_4 := m4 (At.hit z3.p2 rfl); refine e_then (c_seq (region_some_tail 6 (TL [Is (.slice (some ⟨g, 0, none⟩) l.length c), Is (.int .i64 ((i : Nat) : Int)), Is (.slice (some ⟨g, 0, none⟩) i c), Is (.slice (some ⟨g, 0, none⟩) l.length c), Is (.int .i64 ((i + 1 : Nat) : Int)), Is (cutF (.slice (some ⟨g, 0, none⟩) l.length c) (i + 1) 2)]) Low hm (by kernel_rfl) z4 (low_drawn _) (fun _ _ _ h k => Low.trans h k) (TL_cons ?_ (TL_cons ?_ (TL_cons ?_ (TL_cons ?_ (TL_cons ?_ (TL_cons ?_ TL_nil)))))) (allS_cons ?_ (allS_cons ?_ (allS_cons ?_ (allS_cons ?_ (allS_cons ?_ (allS_cons ?_ allS_nil)))))) ?_))
 ·
  exact StL_is _
 ·
  exact StL_is _
 ·
  exact StL_is _
 ·
  exact StL_is _
 ·
  exact StL_is _
 ·
  exact StL_is _
 ·
  exact (stepS_val (.slice (some ⟨g, 0, none⟩) l.length c) _ rfl rfl rfl Low.refl (fun _ => rfl) fun a w z lw kp kn => qm rfl (kp _ _ rfl s0_4) rfl)
 ·
  exact (stepS_val (.int .i64 ((i : Nat) : Int)) _ rfl rfl rfl Low.refl (fun _ => rfl) fun a w z lw kp kn => qm rfl (kp _ _ rfl s1_4) rfl)
 ·
  exact (stepS_val (.slice (some ⟨g, 0, none⟩) i c) _ rfl rfl rfl Low.refl (fun _ => rfl) fun a w z lw kp kn => q_headS (h := i) rfl u_22 sz55 (at_is (u := .slice (some ⟨g, 0, none⟩) l.length c) (w := w) (kn 0 _ rfl rfl)).ev (at_is (u := .int .i64 ((i : Nat) : Int)) (w := w) (kn 1 _ rfl rfl)).ev (by omega) rfl)
 ·
  exact (stepS_val (.slice (some ⟨g, 0, none⟩) l.length c) _ rfl rfl rfl Low.refl (fun _ => rfl) fun a w z lw kp kn => qm rfl (kp _ _ rfl s0_4) rfl)
 ·
  exact (stepS_val (.int .i64 ((i + 1 : Nat) : Int)) _ rfl rfl rfl Low.refl (fun _ => rfl) fun a w z lw kp kn => qm rfl (kp _ _ rfl s2_4) rfl)
 ·
  exact (stepS_val (cutF (.slice (some ⟨g, 0, none⟩) l.length c) (i + 1) 2) _ rfl rfl rfl Low.refl (fun _ => rfl) fun a w z lw kp kn => q_cutF (i := i + 1) rfl u_22 sz55 (at_is (u := .slice (some ⟨g, 0, none⟩) l.length c) (w := w) (kn 3 _ rfl rfl)).ev (at_is (u := .int .i64 ((i + 1 : Nat) : Int)) (w := w) (kn 4 _ rfl rfl)).ev hv.rd (by omega) rfl)
 intro a5 w5 z5 h5 kp kn; have s0_5 := kp _ _ rfl s0_4; have s1_5 := kp _ _ rfl s1_4; have s2_5 := kp _ _ rfl s2_4; have s7_5 := kp _ _ rfl s7_4; have s22_5 := at_is (u := .slice (some ⟨g, 0, none⟩) i c) (w := w5) (kn 2 _ rfl); have s25_5 := at_is (u := cutF (.slice (some ⟨g, 0, none⟩) l.length c) (i + 1) 2) (w := w5) (kn 5 _ rfl); have ow6 := OwnF.low hv h5; clear kp kn
 simp only [List.drop_succ_cons, List.drop_zero]
 refine l_appRoom (B := B) (m := l.length - (i + 1)) rfl rfl u_22 rec55 s22_5.ev rfl s25_5.ev (ow6.less (h := i) (by omega)) (ow6.rd.cut (i + 1) (by omega)) (fun u hu => flat_one encP_one _ u (List.mem_of_mem_drop hu)) (by omega) ?_; intro w5 o5 gr5; refine l_q rfl (qa rfl (At.hit z5 rfl) (l_end (e_fr z5.p2 fun a7 z7 m7 => ?_))); have s0_7 := m7 (At.hit z5.put rfl); have s7_7 := m7 s7_5.n2; refine e_then (c_seq (c_region ?_)); refine l_q rfl (qm rfl s0_7 (l_q rfl (qm rfl (s0_7.n1) (l_q rfl (q_lenL rfl rfl u_22 (At.hit z7.put rfl).ev (l_q rfl (qm rfl (s7_7.n3) (l_q rfl (q_midF (l := (i + (l.length - (i + 1)))) (h := l.length) rfl u_22 sz55 ((At.hit z7 rfl).n3).ev ((At.hit z7.p2 rfl).n1).ev (At.hit z7.p3 rfl).ev (by omega) (by omega) (l_clearF (n := (i + (l.length - (i + 1)))) (d := l.length - (i + (l.length - (i + 1)))) rfl rfl u_22 zero55 rfl (by simp [Value.oneCell']) (At.hit z7.p4 rfl).ev rfl rfl o5 (by omega) (by omega) ?_)))))))))); intro w6 o6 gr6; refine l_end (e_fr z7.p5 fun a8 z8 m8 => ?_); have s0_8 := m8 s0_7.n5; refine e_then (c_seq (c_region ?_)); refine l_q rfl (qm rfl s0_8 (l_q rfl (qa rfl (At.hit z8 rfl) (l_end (e_fr z8.p2 fun a9 z9 m9 => ?_))))); have s6_9 := m9 (At.hit z8.put rfl); refine e_then (wp_ret (r_tmp rfl z9.defers s6_9 ?_)); exact ⟨_, rfl, o6.cast (by simp; omega) (del_row l i hi), GrW.after (GrW.after (GrW.ofLow h5 hv.anyB) gr5 rfl) gr6 rfl, rfl⟩
theorem Delete.calls (B i : Nat) (v : Value) (l : List Rf) (hl : l.length + 1 ≤ 1000000) (hi : i < l.length) (w0 : World) (hv : OwnF w0 B 55 2 v l.length (l.map encP).flatten) (hB : B ≤ w0.heap.size) :
    Calls Tryd.prog 29 #[v, .int .i64 i, .int .i64 ((i + 1 : Nat) : Int)] w0 fun e w' => ∃ v', e = .returned v' ∧ OwnF w' B 55 2 v' (l.take i ++ l.drop (i + 1)).length ((l.take i ++ l.drop (i + 1)).map encP).flatten ∧ GrW B 55 v w0 w' ∧ (v'.ownBlock = v.ownBlock ∨ ∃ k, v'.ownBlock = some k ∧ w0.heap.size ≤ k) := by
  have h0 := hv
  rcases hv.2 with ⟨rfl, hn⟩ | ⟨g, c, cur, rfl, hg, hh, hlc, _⟩
  · omega
  · exact (Delete_.calls B g c i l hl hi w0 h0 hlc hB).mono fun e w' ⟨v', he, o, gr, ap⟩ => ⟨v', he, o, gr, .inl ap⟩
end Go.Proofs.YtnhchnlgleokoaaDoor.Q
end
/-! T2 -/
section
namespace Go.Proofs.YtnhchnlgleokoaaDoor.Q
open Go.RowKit Go.Sort Go.Lib
set_option linter.unusedSimpArgs false
section
variable {P : Program} {Q : Exit → Act → World → Prop} {a : Act} {w : World} {o : Oper} {ops : Array Oper} {rest : List Oper} {K : Act → Prop} {C : World → Prop}
theorem l_callVg {f : FuncId} {fn : Func} {c : Call} {x : Operand} {args caps : Array Value} (R : Value → World → Prop) (hw : Region.wanted o (yielded ops a.tmps) = true) (ho : o.op = .call c) (hc : c.callee = .value x) (hx : a.eval x = .func (.func f) #[] caps) (hf : P.funcs[f]? = some fn) (hn' : (fn.name == "runtime.NumGoroutine" || fn.body.isNone) = false)
    (ha : c.args.map a.eval = args) (hcall : Calls P f (args ++ caps) w fun e w' => ∃ v, e = .returned v ∧ R v w') (h : ∀ v w', R v w' → wpList P ops Q rest (a.put o.dst v) w') : wpList P ops Q (o :: rest) a w := by
  refine wpList_step fun K hK => ?_
  rw [if_pos hw]
  have hrun : (execOp a.eval o).run P w = .ok (.enter f (args ++ caps)) w := by
    rw [Bool.or_eq_false_iff] at hn'
    unfold execOp
    have hpr : (program : Sem Program).run P w = .ok P w := rfl
    simp only [ho, resolve, hc, ha, hx, Deferred.ofValue, invoke, callFunc, Sem.run_bind, Sem.run_pure, Result.andThen_ok, hpr, hf, hn'.1, hn'.2, Array.empty_append]
    rfl
  unfold Oper.wp
  rw [hrun]
  exact hcall.mono fun e w' ⟨v, he, hR⟩ => by subst he; exact hK _ _ (h v w' hR)
theorem l_box1 {T : TypeId} {x : Operand} {v : Value} (hg : o.guard = none) (ho : o.op = .box T x) (hx : a.eval x = v)
    (h : ∀ g w', w.heap.size ≤ g → w'.heap[g]? = some (.cells #[v] T) → Low w w' → wpList P ops Q rest (a.put o.dst (.pointer (some ⟨g, 0, none⟩))) w') (h1 : v.cells = #[v] := by rfl) : wpList P ops Q (o :: rest) a w := by
  refine wpList_plain hg fun K hK => ?_
  have hrun : (execOp a.eval o).run P w = .ok (.value (.pointer (some ⟨w.heap.size, 0, none⟩))) (w.alloc (.cells #[v] T)) := by
    have hn : ∀ w : World, (newVar T v).run P w = .ok ⟨w.heap.size, 0, none⟩ (w.alloc (.cells v.cells T)) := fun _ => rfl
    unfold execOp
    simp only [ho, hx, Instr.box, Sem.run_bind, Result.andThen_ok, Sem.run_pure, hn, h1]
  unfold Oper.wp
  rw [hrun]
  exact hK _ _ (h _ _ (Nat.le_refl _) (new_block _ _) (low_new _ _))
end
theorem lessB_iff (s t : ByteArray) : lessB s t = true ↔ s.data.toList < t.data.toList := by
  unfold lessB
  rw [ByteArray.toList_eq, ByteArray.toList_eq, bytesLess_eq, decide_eq_true_iff]
theorem lessB_irrefl (s : ByteArray) : lessB s s = false := by
  rw [← Bool.not_eq_true, lessB_iff]
  exact List.lt_irrefl _
theorem lessB_trans {s t u : ByteArray} (h : lessB s t = true) (h' : lessB t u = true) : lessB s u = true := by
  rw [lessB_iff] at *
  exact List.lt_trans h h'
theorem lessB_ne {s t : ByteArray} (h : lessB s t = true) : s ≠ t := by
  rintro rfl
  rw [lessB_irrefl] at h
  cases h
theorem lessB_asymm {s t : ByteArray} (h : lessB s t = true) : lessB t s = false := by
  cases h' : lessB t s with
  | false => rfl
  | true => exact absurd rfl (lessB_ne (lessB_trans h h'))
theorem ba_ext {s t : ByteArray} (h : s.data.toList = t.data.toList) : s = t := by
  cases s; cases t
  simp only [ByteArray.mk.injEq]
  exact Array.ext' h
theorem lessB_tri {s t : ByteArray} (h : lessB s t = false) (h' : lessB t s = false) : s = t := by
  rw [← Bool.not_eq_true, lessB_iff] at h h'
  exact ba_ext (List.le_antisymm (List.not_lt.1 h') (List.not_lt.1 h))
theorem le_not (s t : ByteArray) : (lessB s t || (s.toList == t.toList)) = !lessB t s := by
  rw [beqS]
  cases h : lessB t s with
  | true =>
    rw [lessB_asymm h, Bool.false_or]
    exact decide_eq_false fun e => lessB_ne h e.symm
  | false =>
    cases h' : lessB s t with
    | true => rfl
    | false => rw [Bool.false_or]; exact decide_eq_true (lessB_tri h' h)
theorem leT {s t : ByteArray} (h : ¬ lessB t s = true) : (lessB s t || (s.toList == t.toList)) = true := by rw [le_not]; simpa using h
theorem leF {s t : ByteArray} (h : lessB t s = true) : (lessB s t || (s.toList == t.toList)) = false := by rw [le_not, h]; rfl
theorem getD_mem {α : Type} {l : List α} {d : α} {i : Nat} (h : i < l.length) : l.getD i d ∈ l := by
  rw [List.getD_eq_getElem?_getD, List.getElem?_eq_getElem h]
  exact List.getElem_mem h
theorem mem_getD {α : Type} {l : List α} (d : α) {x : α} (h : x ∈ l) : ∃ i, i < l.length ∧ l.getD i d = x := by
  obtain ⟨i, hi, rfl⟩ := List.mem_iff_getElem.1 h
  exact ⟨i, hi, by rw [List.getD_eq_getElem?_getD, List.getElem?_eq_getElem hi]; rfl⟩
def cmpB (a b : ByteArray) : Int := compareBytes a.data.toList b.data.toList
theorem cmp_list : ∀ a b : List UInt8, (compareBytes a b < 0 ↔ a < b) ∧ (compareBytes a b = 0 ↔ a = b)
  | [], [] => ⟨by simp [compareBytes], by simp [compareBytes]⟩
  | [], _ :: _ => ⟨by simp [compareBytes], by simp [compareBytes]⟩
  | _ :: _, [] => ⟨by simp [compareBytes], by simp [compareBytes]⟩
  | a :: ar, b :: bs => by
    obtain ⟨h1, h2⟩ := cmp_list ar bs
    unfold compareBytes
    rw [List.cons_lt_cons_iff, List.cons.injEq]
    by_cases c : a < b
    · rw [if_pos c]
      exact ⟨by simp [c], by simp; intro e; subst e; exact absurd c (UInt8.lt_irrefl _)⟩
    · rw [if_neg c]
      by_cases d : b < a
      · rw [if_pos d]
        refine ⟨by simp [c]; intro e; subst e; exact absurd d (UInt8.lt_irrefl _), by simp; intro e; subst e; exact absurd d (UInt8.lt_irrefl _)⟩
      · rw [if_neg d]
        have e : a = b := UInt8.le_antisymm (UInt8.not_lt.1 d) (UInt8.not_lt.1 c)
        subst e
        exact ⟨by rw [h1]; simp [UInt8.lt_irrefl], by rw [h2]; simp⟩
theorem cmp_lt {a b : ByteArray} (h : lessB a b = true) : cmpB a b < 0 := (cmp_list _ _).1.2 ((lessB_iff _ _).1 h)
theorem cmp_ge {a b : ByteArray} (h : ¬ lessB a b = true) : ¬ cmpB a b < 0 := fun k => h ((lessB_iff _ _).2 ((cmp_list _ _).1.1 k))
theorem cmp_eq0 (a b : ByteArray) : cmpB a b = 0 ↔ a = b := by
  unfold cmpB
  rw [(cmp_list _ _).2]
  exact ⟨ba_ext, fun h => h ▸ rfl⟩
theorem u64_nat {m : Nat} (h : m ≤ 4611686018427387904) : IntKind.u64.wrap (m : Int) = (m : Int) := by
  simp [IntKind.wrap, IntKind.bits, IntKind.signed]
  omega
theorem i64_nat {m : Nat} (h : m ≤ 4611686018427387904) : IntKind.i64.wrap (m : Int) = (m : Int) := by rw [IntKind.wrap_i64]; omega
theorem shr_nat (m : Nat) : ((m : Nat) : Int).fdiv (2 ^ min (1 : Int).toNat IntKind.u64.bits) = ((m / 2 : Nat) : Int) := by
  rw [show min (1 : Int).toNat IntKind.u64.bits = 1 from rfl, Int.fdiv_eq_ediv_of_nonneg _ (by decide)]
  omega
def bsS (l : List Rf) (n : ByteArray) : Nat → Nat × Nat
  | 0 => (0, l.length)
  | k + 1 => if lessB (l.getD (((bsS l n k).1 + (bsS l n k).2) / 2) zP).f0 n = true then (((bsS l n k).1 + (bsS l n k).2) / 2 + 1, (bsS l n k).2) else ((bsS l n k).1, ((bsS l n k).1 + (bsS l n k).2) / 2)
theorem bs_less {l : List Rf} {n : ByteArray} {k : Nat} (h : lessB (l.getD (((bsS l n k).1 + (bsS l n k).2) / 2) zP).f0 n = true) : (bsS l n (k + 1)).1 = ((bsS l n k).1 + (bsS l n k).2) / 2 + 1 ∧ (bsS l n (k + 1)).2 = (bsS l n k).2 := by
  rw [bsS, if_pos h]
  exact ⟨rfl, rfl⟩
theorem bs_more {l : List Rf} {n : ByteArray} {k : Nat} (h : ¬ lessB (l.getD (((bsS l n k).1 + (bsS l n k).2) / 2) zP).f0 n = true) : (bsS l n (k + 1)).1 = (bsS l n k).1 ∧ (bsS l n (k + 1)).2 = ((bsS l n k).1 + (bsS l n k).2) / 2 := by
  rw [bsS, if_neg h]
  exact ⟨rfl, rfl⟩
def bsN (l : List Rf) (n : ByteArray) : Nat := firstN (l.length + 1) fun k => (bsS l n k).1 < (bsS l n k).2
theorem bs_inv (l : List Rf) (n : ByteArray) : ∀ k, k ≤ bsN l n → (bsS l n k).1 ≤ (bsS l n k).2 ∧ (bsS l n k).2 + k ≤ l.length + (bsS l n k).1
  | 0, _ => ⟨Nat.zero_le _, Nat.le_refl _⟩
  | k + 1, h => by
    obtain ⟨h1, h2⟩ := bs_inv l n k (by omega)
    have h3 : (bsS l n k).1 < (bsS l n k).2 := firstN_round (n := l.length + 1) (p := fun k => (bsS l n k).1 < (bsS l n k).2) (show k < bsN l n by omega)
    by_cases c : lessB (l.getD (((bsS l n k).1 + (bsS l n k).2) / 2) zP).f0 n = true
    · obtain ⟨e1, e2⟩ := bs_less c
      rw [e1, e2]
      omega
    · obtain ⟨e1, e2⟩ := bs_more c
      rw [e1, e2]
      omega
theorem bs_top (l : List Rf) (n : ByteArray) : ∀ k, k ≤ bsN l n → (bsS l n k).2 ≤ l.length
  | 0, _ => Nat.le_refl _
  | k + 1, h => by
    have h0 := bs_top l n k (by omega)
    have h3 : (bsS l n k).1 < (bsS l n k).2 := firstN_round (n := l.length + 1) (p := fun k => (bsS l n k).1 < (bsS l n k).2) (show k < bsN l n by omega)
    by_cases c : lessB (l.getD (((bsS l n k).1 + (bsS l n k).2) / 2) zP).f0 n = true
    · rw [(bs_less c).2]; exact h0
    · rw [(bs_more c).2]; omega
theorem bs_round {l : List Rf} {n : ByteArray} {k : Nat} (h : k < bsN l n) : (bsS l n k).1 < (bsS l n k).2 ∧ (bsS l n k).2 ≤ l.length := ⟨firstN_round (n := l.length + 1) (p := fun k => (bsS l n k).1 < (bsS l n k).2) h, bs_top l n k (by omega)⟩
theorem bs_stop (l : List Rf) (n : ByteArray) : (bsS l n (bsN l n)).1 = (bsS l n (bsN l n)).2 ∧ (bsS l n (bsN l n)).2 ≤ l.length := by
  obtain ⟨h1, h2⟩ := bs_inv l n _ (Nat.le_refl _)
  have hlt : bsN l n < l.length + 1 := by omega
  have := firstN_stop (n := l.length + 1) (p := fun k => (bsS l n k).1 < (bsS l n k).2) hlt
  exact ⟨Nat.le_antisymm h1 (Nat.le_of_not_lt this), bs_top l n _ (Nat.le_refl _)⟩
def bsP (l : List Rf) (n : ByteArray) : Nat := (bsS l n (bsN l n)).1
def bsB (l : List Rf) (n : ByteArray) : Bool := if bsP l n < l.length then decide (cmpB (l.getD (bsP l n) zP).f0 n = 0) else false
theorem bsP_le (l : List Rf) (n : ByteArray) : bsP l n ≤ l.length := by unfold bsP; have := bs_stop l n; omega
theorem bsB_iff (l : List Rf) (n : ByteArray) : bsB l n = true ↔ bsP l n < l.length ∧ (l.getD (bsP l n) zP).f0 = n := by
  unfold bsB
  split
  · rename_i h; rw [decide_eq_true_iff, cmp_eq0]; exact ⟨fun k => ⟨h, k⟩, fun k => k.2⟩
  · rename_i h; exact ⟨fun k => absurd k (by simp), fun k => absurd k.1 h⟩
def isN (n : ByteArray) (y : Rf) : Bool := y.f0.toList == n.toList
def ixN (l : List Rf) (n : ByteArray) : Nat := l.findIdx (isN n)
def getL (l : List Rf) (n : ByteArray) : ByteArray := if ixN l n < l.length then (l.getD (ixN l n) zP).f1 else nilB
theorem isN_eq (n : ByteArray) (y : Rf) : isN n y = decide (y.f0 = n) := beqS _ _
theorem getL_at {l : List Rf} {n : ByteArray} (h : ixN l n < l.length) : getL l n = (l.getD (ixN l n) zP).f1 := if_pos h
theorem getL_none {l : List Rf} {n : ByteArray} (h : ¬ ixN l n < l.length) : getL l n = nilB := if_neg h
theorem ixN_le (l : List Rf) (n : ByteArray) : ixN l n ≤ l.length := List.findIdx_le_length
theorem ixN_round {l : List Rf} {n : ByteArray} {k : Nat} (h : k < ixN l n) : ¬ (l.getD k zP).f0 = n := by
  have := idxF_round (p := isN n) k h
  rw [isN_eq] at this
  simpa using this
theorem ixN_stop {l : List Rf} {n : ByteArray} (h : ixN l n < l.length) : (l.getD (ixN l n) zP).f0 = n := by
  have := idxF_at (p := isN n) h
  rw [isN_eq] at this
  exact of_decide_eq_true this
end Go.Proofs.YtnhchnlgleokoaaDoor.Q
end
/-! Shelf -/
section
namespace Go.Proofs
open Go.Shelf
def Tryd.lays160_ren : Go.Shelf.Ren := ⟨fun | 160 => 54 | 232 => 73 | 231 => 72 | 227 => 74 | 234 => 76 | 233 => 75 | 236 => 78 | 235 => 77 | 228 => 91 | 271 => 94 | 151 => 93 | 197 => 92 | 120 => 105 | 152 => 104 | 260 => 103 | 137 => 69 | 119 => 107 | 224 => 100 | 225 => 99 | 217 => 89 | 266 => 102 | n => n, fun | 9 => 9 | 4 => 4 | 3 => 3 | 5 => 5 | 117 => 103 | 116 => 102 | 0 => 0 | 124 => 106 | 21 => 21 | 105 => 113 | 46 => 91 | 119 => 124 | 139 => 127 | 138 => 126 | n => n, fun | 3 => 1 | 4 => 2 | n => n⟩
theorem Tryd.lays160 : Go.Proofs.Lays.n160 Tryd.prog Tryd.lays160_ren := {
  mixed := by kernel_rfl
  f119 := Tryd.func107.trans (congrArg some (by kernel_rfl))
  f120 := Tryd.func105.trans (congrArg some (by kernel_rfl))
  f137 := Tryd.func69.trans (congrArg some (by kernel_rfl))
  f151 := Tryd.func93.trans (congrArg some (by kernel_rfl))
  f152 := Tryd.func104.trans (congrArg some (by kernel_rfl))
  f160 := Tryd.func54.trans (congrArg some (by kernel_rfl))
  f197 := Tryd.func92.trans (congrArg some (by kernel_rfl))
  f217 := Tryd.func89.trans (congrArg some (by kernel_rfl))
  f224 := Tryd.func100.trans (congrArg some (by kernel_rfl))
  f225 := Tryd.func99.trans (congrArg some (by kernel_rfl))
  f227 := Tryd.func74.trans (congrArg some (by kernel_rfl))
  f228 := Tryd.func91.trans (congrArg some (by kernel_rfl))
  f231 := Tryd.func72.trans (congrArg some (by kernel_rfl))
  f232 := Tryd.func73.trans (congrArg some (by kernel_rfl))
  f233 := Tryd.func75.trans (congrArg some (by kernel_rfl))
  f234 := Tryd.func76.trans (congrArg some (by kernel_rfl))
  f235 := Tryd.func77.trans (congrArg some (by kernel_rfl))
  f236 := Tryd.func78.trans (congrArg some (by kernel_rfl))
  f260 := Tryd.func103.trans (congrArg some (by kernel_rfl))
  f266 := Tryd.func102.trans (congrArg some (by kernel_rfl))
  f271 := Tryd.func94.trans (congrArg some (by kernel_rfl))
  t0 := Tryd.underlying0
  a0 := Tryd.isAgg0
  z0 := Tryd.sizeOf0
  v0 := Tryd.zeroValue0
  t3 := Tryd.underlying3
  a3 := Tryd.isAgg3
  z3 := Tryd.sizeOf3
  v3 := Tryd.zeroValue3
  t4 := Tryd.underlying4
  a4 := Tryd.isAgg4
  z4 := Tryd.sizeOf4
  v4 := Tryd.zeroValue4
  t5 := Tryd.underlying5
  a5 := Tryd.isAgg5
  z5 := Tryd.sizeOf5
  v5 := Tryd.zeroValue5
  t9 := Tryd.underlying9
  a9 := Tryd.isAgg9
  z9 := Tryd.sizeOf9
  v9 := Tryd.zeroValue9
  t21 := Tryd.underlying21
  a21 := Tryd.isAgg21
  z21 := Tryd.sizeOf21
  v21 := Tryd.zeroValue21
  t46 := Tryd.underlying91
  a46 := Tryd.isAgg91
  z46 := Tryd.sizeOf91
  v46 := Tryd.zeroValue91
  t105 := Tryd.underlying113
  a105 := Tryd.isAgg113
  z105 := Tryd.sizeOf113
  v105 := Tryd.zeroValue113
  t116 := Tryd.underlying102
  a116 := Tryd.isAgg102
  z116 := Tryd.sizeOf102
  t117 := Tryd.underlying103
  a117 := Tryd.isAgg103
  z117 := Tryd.sizeOf103
  v117 := Tryd.zeroValue103
  t119 := Tryd.underlying124
  a119 := Tryd.isAgg124
  z119 := Tryd.sizeOf124
  t124 := Tryd.underlying106
  a124 := Tryd.isAgg106
  z124 := Tryd.sizeOf106
  v124 := Tryd.zeroValue106
  t138 := Tryd.underlying126
  a138 := Tryd.isAgg126
  z138 := Tryd.sizeOf126
  v138 := Tryd.zeroValue126
  t139 := Tryd.underlying127
  a139 := Tryd.isAgg127
  z139 := Tryd.sizeOf127
  v139 := Tryd.zeroValue127
  g3 := by kernel_rfl
  g4 := by kernel_rfl }
def Tryd.lays137_ren : Go.Shelf.Ren := ⟨fun | 137 => 69 | 217 => 89 | 266 => 102 | n => n, fun | 9 => 9 | 5 => 5 | 3 => 3 | n => n, fun | n => n⟩
theorem Tryd.lays137 : Go.Proofs.Lays.n137 Tryd.prog Tryd.lays137_ren := {
  mixed := by kernel_rfl
  f137 := Tryd.func69.trans (congrArg some (by kernel_rfl))
  f217 := Tryd.func89.trans (congrArg some (by kernel_rfl))
  f266 := Tryd.func102.trans (congrArg some (by kernel_rfl))
  t3 := Tryd.underlying3
  a3 := Tryd.isAgg3
  z3 := Tryd.sizeOf3
  v3 := Tryd.zeroValue3
  t5 := Tryd.underlying5
  a5 := Tryd.isAgg5
  z5 := Tryd.sizeOf5
  v5 := Tryd.zeroValue5
  t9 := Tryd.underlying9
  a9 := Tryd.isAgg9
  z9 := Tryd.sizeOf9
  v9 := Tryd.zeroValue9 }
def Tryd.lays144_ren : Go.Shelf.Ren := ⟨fun | 144 => 58 | 143 => 82 | 219 => 88 | 217 => 89 | 225 => 99 | 224 => 100 | 267 => 101 | 266 => 102 | 314 => 106 | n => n, fun | 9 => 9 | 4 => 4 | 3 => 3 | 5 => 5 | 46 => 91 | 146 => 122 | 51 => 92 | n => n, fun | 1 => 0 | n => n⟩
theorem Tryd.lays144 : Go.Proofs.Lays.n144 Tryd.prog Tryd.lays144_ren := {
  mixed := by kernel_rfl
  f143 := Tryd.func82.trans (congrArg some (by kernel_rfl))
  f144 := Tryd.func58.trans (congrArg some (by kernel_rfl))
  f217 := Tryd.func89.trans (congrArg some (by kernel_rfl))
  f219 := Tryd.func88.trans (congrArg some (by kernel_rfl))
  f224 := Tryd.func100.trans (congrArg some (by kernel_rfl))
  f225 := Tryd.func99.trans (congrArg some (by kernel_rfl))
  f266 := Tryd.func102.trans (congrArg some (by kernel_rfl))
  f267 := Tryd.func101.trans (congrArg some (by kernel_rfl))
  f314 := Tryd.func106.trans (congrArg some (by kernel_rfl))
  t3 := Tryd.underlying3
  a3 := Tryd.isAgg3
  z3 := Tryd.sizeOf3
  v3 := Tryd.zeroValue3
  t4 := Tryd.underlying4
  a4 := Tryd.isAgg4
  z4 := Tryd.sizeOf4
  v4 := Tryd.zeroValue4
  t5 := Tryd.underlying5
  a5 := Tryd.isAgg5
  z5 := Tryd.sizeOf5
  v5 := Tryd.zeroValue5
  t9 := Tryd.underlying9
  a9 := Tryd.isAgg9
  z9 := Tryd.sizeOf9
  v9 := Tryd.zeroValue9
  t46 := Tryd.underlying91
  a46 := Tryd.isAgg91
  z46 := Tryd.sizeOf91
  v46 := Tryd.zeroValue91
  t51 := Tryd.underlying92
  a51 := Tryd.isAgg92
  z51 := Tryd.sizeOf92
  v51 := Tryd.zeroValue92
  t146 := Tryd.underlying122
  a146 := Tryd.isAgg122
  z146 := Tryd.sizeOf122
  v146 := Tryd.zeroValue122
  g1 := by kernel_rfl }
def Tryd.lays145_ren : Go.Shelf.Ren := ⟨fun | 145 => 44 | 220 => 68 | 219 => 88 | 217 => 89 | 225 => 99 | 224 => 100 | 267 => 101 | 266 => 102 | 314 => 106 | n => n, fun | 9 => 9 | 4 => 4 | 59 => 82 | 3 => 3 | 5 => 5 | 46 => 91 | 146 => 122 | 51 => 92 | n => n, fun | 1 => 0 | n => n⟩
theorem Tryd.lays145 : Go.Proofs.Lays.n145 Tryd.prog Tryd.lays145_ren := {
  mixed := by kernel_rfl
  f145 := Tryd.func44.trans (congrArg some (by kernel_rfl))
  f217 := Tryd.func89.trans (congrArg some (by kernel_rfl))
  f219 := Tryd.func88.trans (congrArg some (by kernel_rfl))
  f220 := Tryd.func68.trans (congrArg some (by kernel_rfl))
  f224 := Tryd.func100.trans (congrArg some (by kernel_rfl))
  f225 := Tryd.func99.trans (congrArg some (by kernel_rfl))
  f266 := Tryd.func102.trans (congrArg some (by kernel_rfl))
  f267 := Tryd.func101.trans (congrArg some (by kernel_rfl))
  f314 := Tryd.func106.trans (congrArg some (by kernel_rfl))
  t3 := Tryd.underlying3
  a3 := Tryd.isAgg3
  z3 := Tryd.sizeOf3
  v3 := Tryd.zeroValue3
  t4 := Tryd.underlying4
  a4 := Tryd.isAgg4
  z4 := Tryd.sizeOf4
  v4 := Tryd.zeroValue4
  t5 := Tryd.underlying5
  a5 := Tryd.isAgg5
  z5 := Tryd.sizeOf5
  v5 := Tryd.zeroValue5
  t9 := Tryd.underlying9
  a9 := Tryd.isAgg9
  z9 := Tryd.sizeOf9
  v9 := Tryd.zeroValue9
  t46 := Tryd.underlying91
  a46 := Tryd.isAgg91
  z46 := Tryd.sizeOf91
  v46 := Tryd.zeroValue91
  t51 := Tryd.underlying92
  a51 := Tryd.isAgg92
  z51 := Tryd.sizeOf92
  v51 := Tryd.zeroValue92
  t59 := Tryd.underlying82
  a59 := Tryd.isAgg82
  z59 := Tryd.sizeOf82
  v59 := Tryd.zeroValue82
  t146 := Tryd.underlying122
  a146 := Tryd.isAgg122
  z146 := Tryd.sizeOf122
  v146 := Tryd.zeroValue122
  g1 := by kernel_rfl }
def Tryd.lays146_ren : Go.Shelf.Ren := ⟨fun | 146 => 41 | 221 => 65 | 268 => 86 | 138 => 87 | 143 => 82 | 195 => 97 | 197 => 92 | 218 => 98 | 219 => 88 | 260 => 103 | 217 => 89 | 225 => 99 | 224 => 100 | 267 => 101 | 266 => 102 | 314 => 106 | n => n, fun | 9 => 9 | 31 => 79 | 3 => 3 | 4 => 4 | 0 => 0 | 105 => 113 | 21 => 21 | 5 => 5 | 46 => 91 | 119 => 124 | 139 => 127 | 138 => 126 | 146 => 122 | 51 => 92 | n => n, fun | 1 => 0 | 3 => 1 | 4 => 2 | n => n⟩
theorem Tryd.lays146 : Go.Proofs.Lays.n146 Tryd.prog Tryd.lays146_ren := {
  mixed := by kernel_rfl
  f138 := Tryd.func87.trans (congrArg some (by kernel_rfl))
  f143 := Tryd.func82.trans (congrArg some (by kernel_rfl))
  f146 := Tryd.func41.trans (congrArg some (by kernel_rfl))
  f195 := Tryd.func97.trans (congrArg some (by kernel_rfl))
  f197 := Tryd.func92.trans (congrArg some (by kernel_rfl))
  f217 := Tryd.func89.trans (congrArg some (by kernel_rfl))
  f218 := Tryd.func98.trans (congrArg some (by kernel_rfl))
  f219 := Tryd.func88.trans (congrArg some (by kernel_rfl))
  f221 := Tryd.func65.trans (congrArg some (by kernel_rfl))
  f224 := Tryd.func100.trans (congrArg some (by kernel_rfl))
  f225 := Tryd.func99.trans (congrArg some (by kernel_rfl))
  f260 := Tryd.func103.trans (congrArg some (by kernel_rfl))
  f266 := Tryd.func102.trans (congrArg some (by kernel_rfl))
  f267 := Tryd.func101.trans (congrArg some (by kernel_rfl))
  f268 := Tryd.func86.trans (congrArg some (by kernel_rfl))
  f314 := Tryd.func106.trans (congrArg some (by kernel_rfl))
  t0 := Tryd.underlying0
  a0 := Tryd.isAgg0
  z0 := Tryd.sizeOf0
  v0 := Tryd.zeroValue0
  t3 := Tryd.underlying3
  a3 := Tryd.isAgg3
  z3 := Tryd.sizeOf3
  v3 := Tryd.zeroValue3
  t4 := Tryd.underlying4
  a4 := Tryd.isAgg4
  z4 := Tryd.sizeOf4
  v4 := Tryd.zeroValue4
  t5 := Tryd.underlying5
  a5 := Tryd.isAgg5
  z5 := Tryd.sizeOf5
  v5 := Tryd.zeroValue5
  t9 := Tryd.underlying9
  a9 := Tryd.isAgg9
  z9 := Tryd.sizeOf9
  v9 := Tryd.zeroValue9
  t21 := Tryd.underlying21
  a21 := Tryd.isAgg21
  z21 := Tryd.sizeOf21
  v21 := Tryd.zeroValue21
  t31 := Tryd.underlying79
  a31 := Tryd.isAgg79
  z31 := Tryd.sizeOf79
  v31 := Tryd.zeroValue79
  t46 := Tryd.underlying91
  a46 := Tryd.isAgg91
  z46 := Tryd.sizeOf91
  v46 := Tryd.zeroValue91
  t51 := Tryd.underlying92
  a51 := Tryd.isAgg92
  z51 := Tryd.sizeOf92
  v51 := Tryd.zeroValue92
  t105 := Tryd.underlying113
  a105 := Tryd.isAgg113
  z105 := Tryd.sizeOf113
  v105 := Tryd.zeroValue113
  t119 := Tryd.underlying124
  a119 := Tryd.isAgg124
  z119 := Tryd.sizeOf124
  t138 := Tryd.underlying126
  a138 := Tryd.isAgg126
  z138 := Tryd.sizeOf126
  v138 := Tryd.zeroValue126
  t139 := Tryd.underlying127
  a139 := Tryd.isAgg127
  z139 := Tryd.sizeOf127
  v139 := Tryd.zeroValue127
  t146 := Tryd.underlying122
  a146 := Tryd.isAgg122
  z146 := Tryd.sizeOf122
  v146 := Tryd.zeroValue122
  g1 := by kernel_rfl
  g3 := by kernel_rfl
  g4 := by kernel_rfl }
def Tryd.lays99_ren : Go.Shelf.Ren := ⟨fun | 99 => 56 | 206 => 80 | n => n, fun | 9 => 9 | 4 => 4 | 3 => 3 | n => n, fun | n => n⟩
theorem Tryd.lays99 : Go.Proofs.Lays.n99 Tryd.prog Tryd.lays99_ren := {
  mixed := by kernel_rfl
  f99 := Tryd.func56.trans (congrArg some (by kernel_rfl))
  f206 := Tryd.func80.trans (congrArg some (by kernel_rfl))
  t3 := Tryd.underlying3
  a3 := Tryd.isAgg3
  z3 := Tryd.sizeOf3
  v3 := Tryd.zeroValue3
  t4 := Tryd.underlying4
  a4 := Tryd.isAgg4
  z4 := Tryd.sizeOf4
  v4 := Tryd.zeroValue4
  t9 := Tryd.underlying9
  a9 := Tryd.isAgg9
  z9 := Tryd.sizeOf9
  v9 := Tryd.zeroValue9 }
def Tryd.lays100_ren : Go.Shelf.Ren := ⟨fun | 100 => 57 | 207 => 81 | n => n, fun | 9 => 9 | 4 => 4 | 3 => 3 | n => n, fun | n => n⟩
theorem Tryd.lays100 : Go.Proofs.Lays.n100 Tryd.prog Tryd.lays100_ren := {
  mixed := by kernel_rfl
  f100 := Tryd.func57.trans (congrArg some (by kernel_rfl))
  f207 := Tryd.func81.trans (congrArg some (by kernel_rfl))
  t3 := Tryd.underlying3
  a3 := Tryd.isAgg3
  z3 := Tryd.sizeOf3
  v3 := Tryd.zeroValue3
  t4 := Tryd.underlying4
  a4 := Tryd.isAgg4
  z4 := Tryd.sizeOf4
  v4 := Tryd.zeroValue4
  t9 := Tryd.underlying9
  a9 := Tryd.isAgg9
  z9 := Tryd.sizeOf9
  v9 := Tryd.zeroValue9 }
def Tryd.lays101_ren : Go.Shelf.Ren := ⟨fun | 101 => 43 | 208 => 67 | 206 => 80 | n => n, fun | 9 => 9 | 4 => 4 | 3 => 3 | n => n, fun | n => n⟩
theorem Tryd.lays101 : Go.Proofs.Lays.n101 Tryd.prog Tryd.lays101_ren := {
  mixed := by kernel_rfl
  f101 := Tryd.func43.trans (congrArg some (by kernel_rfl))
  f206 := Tryd.func80.trans (congrArg some (by kernel_rfl))
  f208 := Tryd.func67.trans (congrArg some (by kernel_rfl))
  t3 := Tryd.underlying3
  a3 := Tryd.isAgg3
  z3 := Tryd.sizeOf3
  v3 := Tryd.zeroValue3
  t4 := Tryd.underlying4
  a4 := Tryd.isAgg4
  z4 := Tryd.sizeOf4
  v4 := Tryd.zeroValue4
  t9 := Tryd.underlying9
  a9 := Tryd.isAgg9
  z9 := Tryd.sizeOf9
  v9 := Tryd.zeroValue9 }
def Tryd.lays102_ren : Go.Shelf.Ren := ⟨fun | 102 => 42 | 209 => 66 | 207 => 81 | n => n, fun | 9 => 9 | 4 => 4 | 3 => 3 | n => n, fun | n => n⟩
theorem Tryd.lays102 : Go.Proofs.Lays.n102 Tryd.prog Tryd.lays102_ren := {
  mixed := by kernel_rfl
  f102 := Tryd.func42.trans (congrArg some (by kernel_rfl))
  f207 := Tryd.func81.trans (congrArg some (by kernel_rfl))
  f209 := Tryd.func66.trans (congrArg some (by kernel_rfl))
  t3 := Tryd.underlying3
  a3 := Tryd.isAgg3
  z3 := Tryd.sizeOf3
  v3 := Tryd.zeroValue3
  t4 := Tryd.underlying4
  a4 := Tryd.isAgg4
  z4 := Tryd.sizeOf4
  v4 := Tryd.zeroValue4
  t9 := Tryd.underlying9
  a9 := Tryd.isAgg9
  z9 := Tryd.sizeOf9
  v9 := Tryd.zeroValue9 }
def Tryd.lays106_ren : Go.Shelf.Ren := ⟨fun | 106 => 53 | 213 => 71 | 265 => 90 | n => n, fun | 9 => 9 | 3 => 3 | n => n, fun | n => n⟩
theorem Tryd.lays106 : Go.Proofs.Lays.n106 Tryd.prog Tryd.lays106_ren := {
  mixed := by kernel_rfl
  f106 := Tryd.func53.trans (congrArg some (by kernel_rfl))
  f213 := Tryd.func71.trans (congrArg some (by kernel_rfl))
  f265 := Tryd.func90.trans (congrArg some (by kernel_rfl))
  t3 := Tryd.underlying3
  a3 := Tryd.isAgg3
  z3 := Tryd.sizeOf3
  v3 := Tryd.zeroValue3
  t9 := Tryd.underlying9
  a9 := Tryd.isAgg9
  z9 := Tryd.sizeOf9
  v9 := Tryd.zeroValue9 }
def Tryd.lays169_ren : Go.Shelf.Ren := ⟨fun | 169 => 37 | n => n, fun | 70 => 68 | 9 => 9 | 0 => 0 | 72 => 71 | 37 => 69 | 127 => 94 | 3 => 3 | 5 => 5 | n => n, fun | n => n⟩
theorem Tryd.lays169 : Go.Proofs.Lays.n169 Tryd.prog Tryd.lays169_ren := {
  mixed := by kernel_rfl
  f169 := Tryd.func37.trans (congrArg some (by kernel_rfl))
  t0 := Tryd.underlying0
  a0 := Tryd.isAgg0
  z0 := Tryd.sizeOf0
  v0 := Tryd.zeroValue0
  t3 := Tryd.underlying3
  a3 := Tryd.isAgg3
  z3 := Tryd.sizeOf3
  v3 := Tryd.zeroValue3
  t9 := Tryd.underlying9
  a9 := Tryd.isAgg9
  z9 := Tryd.sizeOf9
  v9 := Tryd.zeroValue9
  t37 := Tryd.underlying69
  a37 := Tryd.isAgg69
  z37 := Tryd.sizeOf69
  v37 := Tryd.zeroValue69
  t70 := Tryd.underlying68
  a70 := Tryd.isAgg68
  z70 := Tryd.sizeOf68
  v70 := Tryd.zeroValue68
  t72 := Tryd.underlying71
  a72 := Tryd.isAgg71
  z72 := Tryd.sizeOf71
  v72 := Tryd.zeroValue71
  t127 := Tryd.underlying94
  a127 := Tryd.isAgg94
  z127 := Tryd.sizeOf94
  v127 := Tryd.zeroValue94 }
end Go.Proofs
end
/-! E2 -/
section
namespace Go.Proofs.YtnhchnlgleokoaaDoor.Q
open Go.RowKit
open Go.Proofs.YtnhchnlgleokoaaDoorW.PrintWords (bytesOf bytesOf_length)
set_option linter.unusedVariables false
set_option linter.unusedSimpArgs false
set_option maxRecDepth 100000
set_option maxHeartbeats 4000000
attribute [local irreducible] wpList wpQuiet qch Code.wp Oper.quiet Act.put At Region.wanted yielded
theorem IsN.calls (y : Rf) (n : ByteArray) (gx : Nat) (w0 : World) (kx : w0.heap[gx]? = some (.cells #[.string n] 9)) : Calls Tryd.prog 33 #[.agg #[.string y.f0, .string y.f1], .pointer (some ⟨gx, 0, none⟩)] w0 fun e w' => e = .returned (.bool (isN n y)) ∧ Low w0 w' := by
 refine c_fun (R := _) Tryd.func33 rfl 8 rfl (Nat.le_of_ble_eq_true rfl) ?_; intro a z hA; have s0 := hA 0 _ rfl; have s1 := hA 1 _ rfl; clear hA; refine c_seq (c_region (l_box rfl rfl s0.ev ?_)); intro g2 w1 hg1 k1 h1; have ngx_g2 := Nat.ne_of_lt (Nat.lt_of_lt_of_le (heap_lt kx) hg1); have geg2 := Nat.le_trans (Low.refl _).ge hg1; have kgx_1 := h1.blk kx; refine l_q rfl (q_assign _ _ rfl rfl ?_); refine l_end (e_fr z.p2 fun a2 z2 m2 => ?_); have s1_2 := m2 s1.n2; have s2_2 := m2 ((At.hit z rfl).n1); have low2 := h1; refine e_then (c_seq (c_region ?_)); refine l_q rfl (q_fld 0 rfl (by kernel_rfl) s2_2.ev ?_); refine l_q rfl (q_cellT (.string y.f0) rfl u_9 (At.hit z2 rfl).ev (fun _ e => by rw [e]; exact (cells_at k1 0).trans rfl) ?_); refine l_q rfl (q_cellT (.string n) rfl u_9 (s1_2.n2).ev (fun _ e => by rw [e]; exact (cells_at kgx_1 0).trans rfl) ?_); refine l_q rfl (q_streq (y.f0.toList == n.toList) rfl ((At.hit z2.put rfl).n1).ev (At.hit z2.p2 rfl).ev rfl ?_); refine l_q rfl (qa rfl (At.hit z2.p3 rfl) (l_end (e_fr z2.p5 fun a3 z3 m3 => ?_))); have s3_3 := m3 (At.hit z2.p4 rfl); refine e_then (wp_ret (r_tmp rfl z3.defers s3_3 ?_)); exact ⟨rfl, low2⟩
theorem Index_none.calls (v : Value) (l : List Rf) (hl : l.length ≤ 1000000) (n : ByteArray) (gx : Nat) (hj : l.length ≤ ixN l n) (w0 : World) (hv : RdF w0 2 v l.length (l.map encP).flatten) (kx : w0.heap[gx]? = some (.cells #[.string n] 9)) : Calls Tryd.prog 32 #[v, .func (.func 33) #[] #[.pointer (some ⟨gx, 0, none⟩)]] w0 fun e w' => e = .returned (.int .i64 (-1)) ∧ Low w0 w' := by
 refine c_fun (R := _) Tryd.func32 rfl 19 rfl (Nat.le_of_ble_eq_true rfl) ?_; intro a z hA; have s0 := hA 0 _ rfl; have s1 := hA 1 _ rfl; clear hA; refine c_seq (c_region ?_); refine l_q rfl (q_assign _ _ rfl rfl ?_); refine l_end (e_fr z.put fun a1 z1 m1 => ?_); have s0_1 := m1 s0.n1; have s1_1 := m1 s1.n1; refine e_then (c_seq (c_seq (c_region ?_))); refine l_q rfl (qm rfl s0_1 (l_q rfl (q_lenF rfl rfl u_22 (At.hit z1 rfl).ev hv (l_q rfl (q_move _ _ rfl rfl (l_end (e_fr z1.p3 fun a2 z2 m2 => ?_))))))); have s0_2 := m2 s0_1.n3; have s1_2 := m2 s1_1.n3; have s7_2 := m2 ((At.hit z1.put rfl).n1); have s8_2 := m2 (At.hit z1.p2 rfl); refine e_then (wp_block (c_loop l.length (fun k a w => Fr 19 a ∧ At a 0 (v) ∧ At a 1 (.func (.func 33) #[] #[.pointer (some ⟨gx, 0, none⟩)]) ∧ At a 7 (.int .i64 ((l.length : Nat) : Int)) ∧ At a 8 (.int .i64 ((k : Nat) : Int)) ∧ w.heap[gx]? = some (.cells (#[.string n]) 9) ∧ Low w0 w) ?_ ?_ ?_))
 ·
  exact ⟨z2, s0_2, s1_2, s7_2, s8_2, kx, (Low.refl _)⟩
 ·
  intro k a3 w3 hk3 h; obtain ⟨z3, s0_3, s1_3, s7_3, s8_3, kgx_3, low3⟩ := h; clear kx s0_2 s1_2 s7_2 s8_2 z2; have hle := ixN_le l n; refine c_seq (c_region ?_); refine l_q rfl (q_lss true rfl s8_3.ev s7_3.ev (decide_eq_true (by omega)) ?_); refine l_end (e_fr z3.put fun a4 z4 m4 => ?_); have s0_4 := m4 s0_3.n1; have s1_4 := m4 s1_3.n1; have s7_4 := m4 s7_3.n1; have s8_4 := m4 s8_3.n1; have s9_4 := m4 (At.hit z3 rfl); refine e_then (c_seq (c_true s9_4 ?_)); refine wp_skip (e_then (c_seq (wp_block (c_seq (c_region ?_))))); refine l_q rfl (qm rfl s8_4 (l_q rfl (qa rfl (At.hit z4 rfl) (l_end (e_fr z4.p2 fun a5 z5 m5 => ?_))))); have s0_5 := m5 s0_4.n2; have s1_5 := m5 s1_4.n2; have s5_5 := m5 (At.hit z4.put rfl); have s7_5 := m5 s7_4.n2; have s8_5 := m5 s8_4.n2; refine e_then (c_seq (c_region ?_)); refine l_q rfl (qm rfl s1_5 (l_q rfl (qm rfl (s0_5.n1) (l_q rfl (qm rfl (s5_5.n2) (l_q rfl (q_idxF (j := k) rfl u_22 sz55 ((At.hit z5.put rfl).n1).ev (hv.low low3) (At.hit z5.p2 rfl).ev (by omega) (l_q rfl (q_ldR (vs := [.string ((l.getD k zP).f0), .string ((l.getD k zP).f1)]) rfl u_55 rfl sz55 (At.hit z5.p3 rfl).ev (fun _ e => by rw [e]; exact (hv.low low3)) (by omega) rfl (flat_part encP_len zP _ k (by omega)) (l_callV (fun v w' => v = .bool false ∧ Low w3 w') rfl rfl rfl ((At.hit z5 rfl).n4).ev Tryd.func33 rfl (args1 rfl (At.hit z5.p4 rfl).ev) (((calls_bool (IsN.calls (l.getD k zP) n gx _ kgx_3) (by rw [isN_eq]; exact decide_eq_false (ixN_round (by unfold ixN at *; omega))))).mono fun _ _ ⟨e, k⟩ => ⟨_, e, rfl, k⟩) ?_))))))))))
  rintro _ w6 ⟨rfl, h6⟩
  have kgx_6 := h6.blk kgx_3; have ov_6 := (hv.low low3).low h6; refine l_end (e_fr z5.p6 fun a7 z7 m7 => ?_); have s0_7 := m7 s0_5.n6; have s1_7 := m7 s1_5.n6; have s5_7 := m7 s5_5.n6; have s7_7 := m7 s7_5.n6; have s8_7 := m7 s8_5.n6; have s16_7 := m7 (At.hit z5.p5 rfl); have low7 := (low3.trans h6); refine e_then (c_false s16_7 ?_); refine wp_skip (e_in (e_then (c_region ?_))); refine l_q rfl (q_add (((k + 1 : Nat) : Int)) rfl s8_7.ev rfl (i64_is (by omega) (by omega) (by omega)) ?_); refine l_q rfl (qm rfl (At.hit z7 rfl) (l_end (e_fr z7.p2 fun a8 z8 m8 => ?_))); have s0_8 := m8 s0_7.n2; have s1_8 := m8 s1_7.n2; have s7_8 := m8 s7_7.n2; have s8_8 := m8 (At.hit z7.put rfl); exact ⟨z8, s0_8, s1_8, s7_8, s8_8, kgx_6, low7⟩
 ·
  intro a9 w9 h; obtain ⟨z9, s0_9, s1_9, s7_9, s8_9, kgx_9, low9⟩ := h; clear kx s0_2 s1_2 s7_2 s8_2 z2; have hle := ixN_le l n; refine c_seq (c_region ?_); refine l_q rfl (q_lss false rfl s8_9.ev s7_9.ev (decide_eq_false (by omega)) ?_); refine l_end (e_fr z9.put fun a10 z10 m10 => ?_); have s0_10 := m10 s0_9.n1; have s1_10 := m10 s1_9.n1; have s8_10 := m10 s8_9.n1; have s9_10 := m10 (At.hit z9 rfl); refine e_then (c_seq (c_false s9_10 ?_)); refine wp_exit (x_then (x_then (in_exit (e_then (c_seq (c_region ?_)))))); refine l_q rfl (q_assign _ _ rfl rfl ?_); refine l_end (e_fr z10.put fun a11 z11 m11 => ?_); have s4_11 := m11 (At.hit z10 rfl); refine e_then (wp_ret (r_tmp rfl z11.defers s4_11 ?_)); exact ⟨rfl, low9⟩
theorem Index_at.calls (v : Value) (l : List Rf) (hl : l.length ≤ 1000000) (n : ByteArray) (gx : Nat) (hj : ixN l n < l.length) (w0 : World) (hv : RdF w0 2 v l.length (l.map encP).flatten) (kx : w0.heap[gx]? = some (.cells #[.string n] 9)) : Calls Tryd.prog 32 #[v, .func (.func 33) #[] #[.pointer (some ⟨gx, 0, none⟩)]] w0 fun e w' => e = .returned (.int .i64 ((ixN l n : Nat) : Int)) ∧ Low w0 w' := by
 refine c_fun (R := _) Tryd.func32 rfl 19 rfl (Nat.le_of_ble_eq_true rfl) ?_; intro a z hA; have s0 := hA 0 _ rfl; have s1 := hA 1 _ rfl; clear hA; refine c_seq (c_region ?_); refine l_q rfl (q_assign _ _ rfl rfl ?_); refine l_end (e_fr z.put fun a1 z1 m1 => ?_); have s0_1 := m1 s0.n1; have s1_1 := m1 s1.n1; refine e_then (c_seq (c_seq (c_region ?_))); refine l_q rfl (qm rfl s0_1 (l_q rfl (q_lenF rfl rfl u_22 (At.hit z1 rfl).ev hv (l_q rfl (q_move _ _ rfl rfl (l_end (e_fr z1.p3 fun a2 z2 m2 => ?_))))))); have s0_2 := m2 s0_1.n3; have s1_2 := m2 s1_1.n3; have s7_2 := m2 ((At.hit z1.put rfl).n1); have s8_2 := m2 (At.hit z1.p2 rfl); refine e_then (wp_block (c_loop (ixN l n) (fun k a w => Fr 19 a ∧ At a 0 (v) ∧ At a 1 (.func (.func 33) #[] #[.pointer (some ⟨gx, 0, none⟩)]) ∧ At a 7 (.int .i64 ((l.length : Nat) : Int)) ∧ At a 8 (.int .i64 ((k : Nat) : Int)) ∧ w.heap[gx]? = some (.cells (#[.string n]) 9) ∧ Low w0 w) ?_ ?_ ?_))
 ·
  exact ⟨z2, s0_2, s1_2, s7_2, s8_2, kx, (Low.refl _)⟩
 ·
  intro k a3 w3 hk3 h; obtain ⟨z3, s0_3, s1_3, s7_3, s8_3, kgx_3, low3⟩ := h; clear kx s0_2 s1_2 s7_2 s8_2 z2; have hle := ixN_le l n; refine c_seq (c_region ?_); refine l_q rfl (q_lss true rfl s8_3.ev s7_3.ev (decide_eq_true (by omega)) ?_); refine l_end (e_fr z3.put fun a4 z4 m4 => ?_); have s0_4 := m4 s0_3.n1; have s1_4 := m4 s1_3.n1; have s7_4 := m4 s7_3.n1; have s8_4 := m4 s8_3.n1; have s9_4 := m4 (At.hit z3 rfl); refine e_then (c_seq (c_true s9_4 ?_)); refine wp_skip (e_then (c_seq (wp_block (c_seq (c_region ?_))))); refine l_q rfl (qm rfl s8_4 (l_q rfl (qa rfl (At.hit z4 rfl) (l_end (e_fr z4.p2 fun a5 z5 m5 => ?_))))); have s0_5 := m5 s0_4.n2; have s1_5 := m5 s1_4.n2; have s5_5 := m5 (At.hit z4.put rfl); have s7_5 := m5 s7_4.n2; have s8_5 := m5 s8_4.n2; refine e_then (c_seq (c_region ?_)); refine l_q rfl (qm rfl s1_5 (l_q rfl (qm rfl (s0_5.n1) (l_q rfl (qm rfl (s5_5.n2) (l_q rfl (q_idxF (j := k) rfl u_22 sz55 ((At.hit z5.put rfl).n1).ev (hv.low low3) (At.hit z5.p2 rfl).ev (by omega) (l_q rfl (q_ldR (vs := [.string ((l.getD k zP).f0), .string ((l.getD k zP).f1)]) rfl u_55 rfl sz55 (At.hit z5.p3 rfl).ev (fun _ e => by rw [e]; exact (hv.low low3)) (by omega) rfl (flat_part encP_len zP _ k (by omega)) (l_callV (fun v w' => v = .bool false ∧ Low w3 w') rfl rfl rfl ((At.hit z5 rfl).n4).ev Tryd.func33 rfl (args1 rfl (At.hit z5.p4 rfl).ev) (((calls_bool (IsN.calls (l.getD k zP) n gx _ kgx_3) (by rw [isN_eq]; exact decide_eq_false (ixN_round (by assumption))))).mono fun _ _ ⟨e, k⟩ => ⟨_, e, rfl, k⟩) ?_))))))))))
  rintro _ w6 ⟨rfl, h6⟩
  have kgx_6 := h6.blk kgx_3; have ov_6 := (hv.low low3).low h6; refine l_end (e_fr z5.p6 fun a7 z7 m7 => ?_); have s0_7 := m7 s0_5.n6; have s1_7 := m7 s1_5.n6; have s5_7 := m7 s5_5.n6; have s7_7 := m7 s7_5.n6; have s8_7 := m7 s8_5.n6; have s16_7 := m7 (At.hit z5.p5 rfl); have low7 := (low3.trans h6); refine e_then (c_false s16_7 ?_); refine wp_skip (e_in (e_then (c_region ?_))); refine l_q rfl (q_add (((k + 1 : Nat) : Int)) rfl s8_7.ev rfl (i64_is (by omega) (by omega) (by omega)) ?_); refine l_q rfl (qm rfl (At.hit z7 rfl) (l_end (e_fr z7.p2 fun a8 z8 m8 => ?_))); have s0_8 := m8 s0_7.n2; have s1_8 := m8 s1_7.n2; have s7_8 := m8 s7_7.n2; have s8_8 := m8 (At.hit z7.put rfl); exact ⟨z8, s0_8, s1_8, s7_8, s8_8, kgx_6, low7⟩
 ·
  intro a9 w9 h; obtain ⟨z9, s0_9, s1_9, s7_9, s8_9, kgx_9, low9⟩ := h; clear kx s0_2 s1_2 s7_2 s8_2 z2; have hle := ixN_le l n; refine c_seq (c_region ?_); refine l_q rfl (q_lss true rfl s8_9.ev s7_9.ev (decide_eq_true (by omega)) ?_); refine l_end (e_fr z9.put fun a10 z10 m10 => ?_); have s0_10 := m10 s0_9.n1; have s1_10 := m10 s1_9.n1; have s8_10 := m10 s8_9.n1; have s9_10 := m10 (At.hit z9 rfl); refine e_then (c_seq (c_true s9_10 ?_)); refine wp_skip (e_then (c_seq (wp_block (c_seq (c_region ?_))))); refine l_q rfl (qm rfl s8_10 (l_q rfl (qa rfl (At.hit z10 rfl) (l_end (e_fr z10.p2 fun a11 z11 m11 => ?_))))); have s0_11 := m11 s0_10.n2; have s1_11 := m11 s1_10.n2; have s5_11 := m11 (At.hit z10.put rfl); have s8_11 := m11 s8_10.n2; refine e_then (c_seq (c_region ?_)); refine l_q rfl (qm rfl s1_11 (l_q rfl (qm rfl (s0_11.n1) (l_q rfl (qm rfl (s5_11.n2) (l_q rfl (q_idxF (j := (ixN l n)) rfl u_22 sz55 ((At.hit z11.put rfl).n1).ev (hv.low low9) (At.hit z11.p2 rfl).ev (by omega) (l_q rfl (q_ldR (vs := [.string ((l.getD (ixN l n) zP).f0), .string ((l.getD (ixN l n) zP).f1)]) rfl u_55 rfl sz55 (At.hit z11.p3 rfl).ev (fun _ e => by rw [e]; exact (hv.low low9)) (by omega) rfl (flat_part encP_len zP _ (ixN l n) (by omega)) (l_callV (fun v w' => v = .bool true ∧ Low w9 w') rfl rfl rfl ((At.hit z11 rfl).n4).ev Tryd.func33 rfl (args1 rfl (At.hit z11.p4 rfl).ev) (((calls_bool (IsN.calls (l.getD (ixN l n) zP) n gx _ kgx_9) (by rw [isN_eq]; exact decide_eq_true (ixN_stop hj)))).mono fun _ _ ⟨e, k⟩ => ⟨_, e, rfl, k⟩) ?_))))))))))
  rintro _ w12 ⟨rfl, h12⟩
  have kgx_12 := h12.blk kgx_9; have ov_12 := (hv.low low9).low h12; refine l_end (e_fr z11.p6 fun a13 z13 m13 => ?_); have s5_13 := m13 s5_11.n6; have s8_13 := m13 s8_11.n6; have s16_13 := m13 (At.hit z11.p5 rfl); have low13 := (low9.trans h12); refine e_then (c_true s16_13 ?_); refine c_seq (c_region ?_); refine l_q rfl (qm rfl s5_13 (l_q rfl (qa rfl (At.hit z13 rfl) (l_end (e_fr z13.p2 fun a14 z14 m14 => ?_))))); have s4_14 := m14 (At.hit z13.put rfl); refine e_then (wp_ret (ret_in (ret_then (ret_then (ret_in (ret_then (r_tmp rfl z14.defers s4_14 ?_))))))); exact ⟨rfl, low13⟩
theorem Get_none.calls (hd : ByteArray) (v : Value) (l : List Rf) (hl : l.length ≤ 1000000) (n : ByteArray) (hj : ¬ ixN l n < l.length) (w0 : World) (hv : RdF w0 2 v l.length (l.map encP).flatten) : Calls Tryd.prog 15 #[.agg #[.string hd, v], .string n] w0 fun e w' => e = .returned (.string (getL l n)) ∧ Low w0 w' := by
 refine c_fun (R := _) Tryd.func15 rfl 18 rfl (Nat.le_of_ble_eq_true rfl) ?_; intro a z hA; have s0 := hA 0 _ rfl; have s1 := hA 1 _ rfl; clear hA; refine c_seq (c_region (l_box rfl rfl s0.ev ?_)); intro g2 w1 hg1 k1 h1; have geg2 := Nat.le_trans (Low.refl _).ge hg1; have ov_1 := hv.low h1; refine l_box1 rfl rfl (s1.n1).ev ?_; intro g3 w2 hg2 k2 h2; have lt_g2_g3 := Nat.lt_of_lt_of_le (heap_lt k1) hg2; have geg3 := Nat.le_trans h1.ge hg2; have kg2_2 := h2.blk k1; have ov_2 := ov_1.low h2; refine l_q rfl (q_assign _ _ rfl rfl ?_); refine l_end (e_fr z.p3 fun a3 z3 m3 => ?_); have s2_3 := m3 ((At.hit z rfl).n2); have s3_3 := m3 ((At.hit z.put rfl).n1); have low3 := (h1.trans h2); refine e_then (c_seq (c_region ?_)); refine l_q rfl (q_fld 1 rfl (by kernel_rfl) s2_3.ev ?_); refine l_q rfl (q_cellS (v) rfl u_22 (At.hit z3 rfl).ev (fun _ e => by rw [e]; exact (cells_at kg2_2 1).trans rfl) ?_); refine l_q rfl (q_makeFunc rfl (s3_3.n2).ev ?_); refine l_call (fun v w' => v = .int .i64 (-1) ∧ Low w2 w') rfl rfl rfl Tryd.func32 rfl (args2 rfl ((At.hit z3.put rfl).n1).ev (At.hit z3.p2 rfl).ev) ((Index_none.calls v l hl n g3 (Nat.le_of_not_lt hj) _ ov_2 k2).mono fun _ _ ⟨e, k⟩ => ⟨_, e, rfl, k⟩) ?_
 rintro _ w4 ⟨rfl, h4⟩
 have kg2_4 := h4.blk kg2_2; have kg3_4 := h4.blk k2; have ov_4 := ov_2.low h4; refine l_q rfl (qa rfl (At.hit z3.p3 rfl) (l_end (e_fr z3.p5 fun a5 z5 m5 => ?_))); have s2_5 := m5 s2_3.n5; have s5_5 := m5 (At.hit z3.p4 rfl); have low5 := (low3.trans h4); refine e_then (c_seq (c_seq (c_region ?_))); refine l_q rfl (qm rfl s5_5 (l_q rfl (q_lss true rfl (At.hit z5 rfl).ev rfl (decide_eq_true (by omega)) (l_end (e_fr z5.p2 fun a6 z6 m6 => ?_))))); have s2_6 := m6 s2_5.n2; have s5_6 := m6 s5_5.n2; have s11_6 := m6 (At.hit z5.put rfl); refine e_then (c_true s11_6 ?_); refine c_seq (c_region ?_); refine l_q rfl (q_assign _ _ rfl rfl ?_); refine l_end (e_fr z6.put fun a7 z7 m7 => ?_); have s4_7 := m7 (At.hit z6 rfl); refine e_then (wp_ret (ret_then (r_tmp rfl z7.defers s4_7 ?_))); exact ⟨by rw [getL_none hj]; rfl, low5⟩
theorem Get_at.calls (hd : ByteArray) (v : Value) (l : List Rf) (hl : l.length ≤ 1000000) (n : ByteArray) (hj : ixN l n < l.length) (w0 : World) (hv : RdF w0 2 v l.length (l.map encP).flatten) : Calls Tryd.prog 15 #[.agg #[.string hd, v], .string n] w0 fun e w' => e = .returned (.string (getL l n)) ∧ Low w0 w' := by
 refine c_fun (R := _) Tryd.func15 rfl 18 rfl (Nat.le_of_ble_eq_true rfl) ?_; intro a z hA; have s0 := hA 0 _ rfl; have s1 := hA 1 _ rfl; clear hA; refine c_seq (c_region (l_box rfl rfl s0.ev ?_)); intro g2 w1 hg1 k1 h1; have geg2 := Nat.le_trans (Low.refl _).ge hg1; have ov_1 := hv.low h1; refine l_box1 rfl rfl (s1.n1).ev ?_; intro g3 w2 hg2 k2 h2; have lt_g2_g3 := Nat.lt_of_lt_of_le (heap_lt k1) hg2; have geg3 := Nat.le_trans h1.ge hg2; have kg2_2 := h2.blk k1; have ov_2 := ov_1.low h2; refine l_q rfl (q_assign _ _ rfl rfl ?_); refine l_end (e_fr z.p3 fun a3 z3 m3 => ?_); have s2_3 := m3 ((At.hit z rfl).n2); have s3_3 := m3 ((At.hit z.put rfl).n1); have low3 := (h1.trans h2); refine e_then (c_seq (c_region ?_)); refine l_q rfl (q_fld 1 rfl (by kernel_rfl) s2_3.ev ?_); refine l_q rfl (q_cellS (v) rfl u_22 (At.hit z3 rfl).ev (fun _ e => by rw [e]; exact (cells_at kg2_2 1).trans rfl) ?_); refine l_q rfl (q_makeFunc rfl (s3_3.n2).ev ?_); refine l_call (fun v w' => v = .int .i64 (((ixN l n) : Nat) : Int) ∧ Low w2 w') rfl rfl rfl Tryd.func32 rfl (args2 rfl ((At.hit z3.put rfl).n1).ev (At.hit z3.p2 rfl).ev) ((Index_at.calls v l hl n g3 hj _ ov_2 k2).mono fun _ _ ⟨e, k⟩ => ⟨_, e, rfl, k⟩) ?_
 rintro _ w4 ⟨rfl, h4⟩
 have kg2_4 := h4.blk kg2_2; have kg3_4 := h4.blk k2; have ov_4 := ov_2.low h4; refine l_q rfl (qa rfl (At.hit z3.p3 rfl) (l_end (e_fr z3.p5 fun a5 z5 m5 => ?_))); have s2_5 := m5 s2_3.n5; have s5_5 := m5 (At.hit z3.p4 rfl); have low5 := (low3.trans h4); refine e_then (c_seq (c_seq (c_region ?_))); refine l_q rfl (qm rfl s5_5 (l_q rfl (q_lss false rfl (At.hit z5 rfl).ev rfl (decide_eq_false (by omega)) (l_end (e_fr z5.p2 fun a6 z6 m6 => ?_))))); have s2_6 := m6 s2_5.n2; have s5_6 := m6 s5_5.n2; have s11_6 := m6 (At.hit z5.put rfl); refine e_then (c_false s11_6 ?_); refine wp_skip (e_then (c_seq (c_region ?_))); refine l_q rfl (q_fld 1 rfl (by kernel_rfl) s2_6.ev ?_); refine l_q rfl (q_cellS (v) rfl u_22 (At.hit z6 rfl).ev (fun _ e => by rw [e]; exact (cells_at kg2_4 1).trans rfl) ?_); refine l_q rfl (qm rfl (s5_6.n2) (l_q rfl (q_idxF (j := (ixN l n)) rfl u_22 sz55 ((At.hit z6.put rfl).n1).ev ov_4 (At.hit z6.p2 rfl).ev (by omega) (l_q rfl (q_fldF 1 rfl fld55_1 (At.hit z6.p3 rfl).ev (ov_4.form (by omega)) (l_q rfl (q_ld1 (u := .string ((l.getD (ixN l n) zP).f1)) rfl u_9 rfl (At.hit z6.p4 rfl).ev (fun _ e => by rw [e]; exact ov_4) (by omega) ((flat_at encP_len zP _ (ixN l n) 1 (by omega) (by decide)).trans rfl) (l_q rfl (qa rfl (At.hit z6.p5 rfl) (l_end (e_fr z6.p7 fun a7 z7 m7 => ?_))))))))))); have s4_7 := m7 (At.hit z6.p6 rfl); refine e_then (wp_ret (r_tmp rfl z7.defers s4_7 ?_)); exact ⟨by rw [getL_at hj], low5⟩
theorem Get.calls (hd : ByteArray) (v : Value) (l : List Rf) (hl : l.length ≤ 1000000) (n : ByteArray) (w0 : World) (hv : RdF w0 2 v l.length (l.map encP).flatten) : Calls Tryd.prog 15 #[.agg #[.string hd, v], .string n] w0 fun e w' => e = .returned (.string (getL l n)) ∧ Low w0 w' := by
  by_cases h : ixN l n < l.length
  · exact Get_at.calls hd v l hl n h w0 hv
  · exact Get_none.calls hd v l hl n h w0 hv
theorem compare_c (a b : ByteArray) (w : World) : Calls Tryd.prog 53 #[.string a, .string b] w fun e w' => e = .returned (.int .i64 (cmpB a b)) ∧ Low w w' := (Any.strings_Compare Tryd.lays106 a b w).mono fun e w' ⟨h1, h2⟩ => ⟨h1, h2 ▸ Low.refl _⟩
theorem Cmp.calls (y : Rf) (n : ByteArray) (w0 : World) : Calls Tryd.prog 52 #[.agg #[.string y.f0, .string y.f1], .string n] w0 fun e w' => e = .returned (.int .i64 (cmpB y.f0 n)) ∧ Low w0 w' := by
 refine c_fun (R := _) Tryd.func52 rfl 9 rfl (Nat.le_of_ble_eq_true rfl) ?_; intro a z hA; have s0 := hA 0 _ rfl; have s1 := hA 1 _ rfl; clear hA; refine c_seq (c_region (l_box rfl rfl s0.ev ?_)); intro g2 w1 hg1 k1 h1; have geg2 := Nat.le_trans (Low.refl _).ge hg1; refine l_q rfl (q_assign _ _ rfl rfl ?_); refine l_end (e_fr z.p2 fun a2 z2 m2 => ?_); have s1_2 := m2 s1.n2; have s2_2 := m2 ((At.hit z rfl).n1); have low2 := h1; refine e_then (c_seq (c_region ?_)); refine l_q rfl (q_fld 0 rfl (by kernel_rfl) s2_2.ev ?_); refine l_q rfl (q_cellT (.string y.f0) rfl u_9 (At.hit z2 rfl).ev (fun _ e => by rw [e]; exact (cells_at k1 0).trans rfl) ?_); refine l_q rfl (qm rfl (s1_2.n2) (l_call (fun v w' => v = .int .i64 (cmpB y.f0 n) ∧ Low w1 w') rfl rfl rfl Tryd.func53 rfl (args2 rfl ((At.hit z2.put rfl).n1).ev (At.hit z2.p2 rfl).ev) ((compare_c y.f0 n _).mono fun _ _ ⟨e, k⟩ => ⟨_, e, rfl, k⟩) ?_))
 rintro _ w3 ⟨rfl, h3⟩
 have kg2_3 := h3.blk k1; refine l_q rfl (qa rfl (At.hit z2.p3 rfl) (l_end (e_fr z2.p5 fun a4 z4 m4 => ?_))); have s4_4 := m4 (At.hit z2.p4 rfl); have low4 := (low2.trans h3); refine e_then (wp_ret (r_tmp rfl z4.defers s4_4 ?_)); exact ⟨rfl, low4⟩
theorem Search.calls (v : Value) (l : List Rf) (hl : l.length ≤ 1000000) (n : ByteArray) (w0 : World) (hv : RdF w0 2 v l.length (l.map encP).flatten) : Calls Tryd.prog 51 #[v, .string n, .func (.func 52) #[] #[]] w0 fun e w' => e = .returned (.tuple #[.int .i64 ((bsP l n : Nat) : Int), .bool (bsB l n)]) ∧ Low w0 w' := by
 refine c_fun (R := _) Tryd.func51 rfl 49 rfl (Nat.le_of_ble_eq_true rfl) ?_; intro a z hA; have s0 := hA 0 _ rfl; have s1 := hA 1 _ rfl; have s2 := hA 2 _ rfl; clear hA; refine c_seq (c_region ?_); refine l_q rfl (q_assign _ _ rfl rfl ?_); refine l_q rfl (q_assign _ _ rfl rfl ?_); refine l_end (e_fr z.p2 fun a1 z1 m1 => ?_); have s0_1 := m1 s0.n2; have s1_1 := m1 s1.n2; have s2_1 := m1 s2.n2; refine e_then (c_seq (c_region ?_)); refine l_q rfl (qm rfl s0_1 (l_q rfl (q_lenF rfl rfl u_22 (At.hit z1 rfl).ev hv (l_q rfl (qa rfl (At.hit z1.put rfl) (l_end (e_fr z1.p3 fun a2 z2 m2 => ?_))))))); have s0_2 := m2 s0_1.n3; have s1_2 := m2 s1_1.n3; have s2_2 := m2 s2_1.n3; have s8_2 := m2 (At.hit z1.p2 rfl); refine e_then (c_seq (c_region ?_)); refine l_q rfl (qm rfl s8_2 (l_q rfl (q_assign _ _ rfl rfl (l_q rfl (qa rfl ((At.hit z2 rfl).n1) (l_end (e_fr z2.p3 fun a3 z3 m3 => ?_))))))); have s0_3 := m3 s0_2.n3; have s1_3 := m3 s1_2.n3; have s2_3 := m3 s2_2.n3; have s8_3 := m3 s8_2.n3; have s9_3 := m3 ((At.hit z2.put rfl).n1); have s10_3 := m3 (At.hit z2.p2 rfl); refine e_then (c_seq (wp_block ?_)); have hb0 : (bsS l n 0).1 = 0 := rfl; have hb1 : (bsS l n 0).2 = l.length := rfl; have hb2 := bs_stop l n; have hb3 := bsP_le l n; refine c_loop (bsN l n) (fun k a w => Fr 49 a ∧ At a 0 (v) ∧ At a 1 (.string n) ∧ At a 2 (.func (.func 52) #[] #[]) ∧ At a 8 (.int .i64 ((l.length : Nat) : Int)) ∧ At a 9 (.int .i64 ((((bsS l n k).1) : Nat) : Int)) ∧ At a 10 (.int .i64 ((((bsS l n k).2) : Nat) : Int)) ∧ Low w0 w) ?_ ?_ ?_
 ·
  exact ⟨z3, s0_3, s1_3, s2_3, s8_3, (s9_3.same (congrArg (Value.int .i64) (by omega))), (s10_3.same (congrArg (Value.int .i64) (by omega))), (Low.refl _)⟩
 ·
  intro k a4 w4 hk4 h; obtain ⟨z4, s0_4, s1_4, s2_4, s8_4, s9_4, s10_4, low4⟩ := h; clear s0_3 s10_3 s1_3 s2_3 s8_3 s9_3 z3; obtain ⟨hr1, hr2⟩ := bs_round (l := l) (n := n) (k := k) (by assumption); refine c_seq (c_seq (c_region ?_)); refine l_q rfl (qm rfl s9_4 (l_q rfl (qm rfl (s10_4.n1) (l_q rfl (q_lss true rfl ((At.hit z4 rfl).n1).ev (At.hit z4.put rfl).ev (decide_eq_true (by omega)) (l_end (e_fr z4.p3 fun a5 z5 m5 => ?_))))))); have s0_5 := m5 s0_4.n3; have s1_5 := m5 s1_4.n3; have s2_5 := m5 s2_4.n3; have s8_5 := m5 s8_4.n3; have s9_5 := m5 s9_4.n3; have s10_5 := m5 s10_4.n3; have s17_5 := m5 (At.hit z4.p2 rfl); refine e_then (c_true s17_5 ?_); refine wp_skip (e_then (wp_block (c_seq (c_region ?_)))); refine l_q rfl (qm rfl s9_5 (l_q rfl (qm rfl (s10_5.n1) (l_q rfl (q_add (((((bsS l n k).1) + ((bsS l n k).2) : Nat) : Int)) rfl ((At.hit z5 rfl).n1).ev (At.hit z5.put rfl).ev (i64_is (by omega) (by omega) (by omega)) (l_q rfl (q_conv (((((bsS l n k).1) + ((bsS l n k).2) : Nat) : Int)) rfl (At.hit z5.p2 rfl).ev u_3 u_91 (u64_nat (by omega)) (l_q rfl (q_shr (((((((bsS l n k).1) + ((bsS l n k).2)) / 2) : Nat) : Int)) rfl (At.hit z5.p3 rfl).ev rfl (by omega) (shr_nat _) (l_q rfl (q_conv (((((((bsS l n k).1) + ((bsS l n k).2)) / 2) : Nat) : Int)) rfl (At.hit z5.p4 rfl).ev u_91 u_3 (i64_nat (by omega)) (l_q rfl (qa rfl (At.hit z5.p5 rfl) (l_end (e_fr z5.p7 fun a6 z6 m6 => ?_))))))))))))))); have s0_6 := m6 s0_5.n7; have s1_6 := m6 s1_5.n7; have s2_6 := m6 s2_5.n7; have s8_6 := m6 s8_5.n7; have s9_6 := m6 s9_5.n7; have s10_6 := m6 s10_5.n7; have s11_6 := m6 (At.hit z5.p6 rfl); refine e_then (c_seq ?_)
  by_cases hb7 : lessB (l.getD (((bsS l n k).1 + (bsS l n k).2) / 2) zP).f0 n = true
  ·
   skip
   refine c_region ?_; refine l_q rfl (qm rfl s2_6 (l_q rfl (qm rfl (s0_6.n1) (l_q rfl (qm rfl (s11_6.n2) (l_q rfl (q_idxF (j := ((((bsS l n k).1) + ((bsS l n k).2)) / 2)) rfl u_22 sz55 ((At.hit z6.put rfl).n1).ev (hv.low low4) (At.hit z6.p2 rfl).ev (by omega) (l_q rfl (q_ldR (vs := [.string ((l.getD ((((bsS l n k).1) + ((bsS l n k).2)) / 2) zP).f0), .string ((l.getD ((((bsS l n k).1) + ((bsS l n k).2)) / 2) zP).f1)]) rfl u_55 rfl sz55 (At.hit z6.p3 rfl).ev (fun _ e => by rw [e]; exact (hv.low low4)) (by omega) rfl (flat_part encP_len zP _ ((((bsS l n k).1) + ((bsS l n k).2)) / 2) (by omega)) (l_q rfl (qm rfl (s1_6.n5) (l_callV (fun v w' => v = .int .i64 (cmpB (l.getD ((((bsS l n k).1) + ((bsS l n k).2)) / 2) zP).f0 n) ∧ Low w4 w') rfl rfl rfl ((At.hit z6 rfl).n5).ev Tryd.func52 rfl (args2 rfl ((At.hit z6.p4 rfl).n1).ev (At.hit z6.p5 rfl).ev) (((Cmp.calls (l.getD ((((bsS l n k).1) + ((bsS l n k).2)) / 2) zP) n _)).mono fun _ _ ⟨e, k⟩ => ⟨_, e, rfl, k⟩) ?_))))))))))))
   rintro _ w8 ⟨rfl, h8⟩
   have ov_8 := (hv.low low4).low h8; refine l_q rfl (q_lss true rfl (At.hit z6.p6 rfl).ev rfl (decide_eq_true (cmp_lt hb7)) ?_); refine l_end (e_fr z6.p8 fun a9 z9 m9 => ?_); have s0_9 := m9 s0_6.n8; have s1_9 := m9 s1_6.n8; have s2_9 := m9 s2_6.n8; have s8_9 := m9 s8_6.n8; have s9_9 := m9 s9_6.n8; have s10_9 := m9 s10_6.n8; have s11_9 := m9 s11_6.n8; have s31_9 := m9 (At.hit z6.p7 rfl); have low9 := (low4.trans h8); refine e_then (c_true s31_9 ?_); refine c_region ?_; refine l_q rfl (qm rfl s11_9 (l_q rfl (q_add (((((((bsS l n k).1) + ((bsS l n k).2)) / 2) + 1 : Nat) : Int)) rfl (At.hit z9 rfl).ev rfl (i64_is (by omega) (by omega) (by omega)) (l_q rfl (qa rfl (At.hit z9.put rfl) (l_end (e_fr z9.p3 fun a10 z10 m10 => ?_))))))); have s0_10 := m10 s0_9.n3; have s1_10 := m10 s1_9.n3; have s2_10 := m10 s2_9.n3; have s8_10 := m10 s8_9.n3; have s9_10 := m10 (At.hit z9.p2 rfl); have s10_10 := m10 s10_9.n3; refine e_in ?_; obtain ⟨he1, he2⟩ := bs_less hb7; exact ⟨z10, s0_10, s1_10, s2_10, s8_10, (s9_10.same (congrArg (Value.int .i64) (by omega))), (s10_10.same (congrArg (Value.int .i64) (by omega))), low9⟩
  ·
   skip
   refine c_region ?_; refine l_q rfl (qm rfl s2_6 (l_q rfl (qm rfl (s0_6.n1) (l_q rfl (qm rfl (s11_6.n2) (l_q rfl (q_idxF (j := ((((bsS l n k).1) + ((bsS l n k).2)) / 2)) rfl u_22 sz55 ((At.hit z6.put rfl).n1).ev (hv.low low4) (At.hit z6.p2 rfl).ev (by omega) (l_q rfl (q_ldR (vs := [.string ((l.getD ((((bsS l n k).1) + ((bsS l n k).2)) / 2) zP).f0), .string ((l.getD ((((bsS l n k).1) + ((bsS l n k).2)) / 2) zP).f1)]) rfl u_55 rfl sz55 (At.hit z6.p3 rfl).ev (fun _ e => by rw [e]; exact (hv.low low4)) (by omega) rfl (flat_part encP_len zP _ ((((bsS l n k).1) + ((bsS l n k).2)) / 2) (by omega)) (l_q rfl (qm rfl (s1_6.n5) (l_callV (fun v w' => v = .int .i64 (cmpB (l.getD ((((bsS l n k).1) + ((bsS l n k).2)) / 2) zP).f0 n) ∧ Low w4 w') rfl rfl rfl ((At.hit z6 rfl).n5).ev Tryd.func52 rfl (args2 rfl ((At.hit z6.p4 rfl).n1).ev (At.hit z6.p5 rfl).ev) (((Cmp.calls (l.getD ((((bsS l n k).1) + ((bsS l n k).2)) / 2) zP) n _)).mono fun _ _ ⟨e, k⟩ => ⟨_, e, rfl, k⟩) ?_))))))))))))
   rintro _ w11 ⟨rfl, h11⟩
   have ov_11 := (hv.low low4).low h11; refine l_q rfl (q_lss false rfl (At.hit z6.p6 rfl).ev rfl (decide_eq_false (cmp_ge hb7)) ?_); refine l_end (e_fr z6.p8 fun a12 z12 m12 => ?_); have s0_12 := m12 s0_6.n8; have s1_12 := m12 s1_6.n8; have s2_12 := m12 s2_6.n8; have s8_12 := m12 s8_6.n8; have s9_12 := m12 s9_6.n8; have s10_12 := m12 s10_6.n8; have s11_12 := m12 s11_6.n8; have s31_12 := m12 (At.hit z6.p7 rfl); have low12 := (low4.trans h11); refine e_then (c_false s31_12 ?_); refine c_region ?_; refine l_q rfl (qm rfl s11_12 (l_q rfl (qa rfl (At.hit z12 rfl) (l_end (e_fr z12.p2 fun a13 z13 m13 => ?_))))); have s0_13 := m13 s0_12.n2; have s1_13 := m13 s1_12.n2; have s2_13 := m13 s2_12.n2; have s8_13 := m13 s8_12.n2; have s9_13 := m13 s9_12.n2; have s10_13 := m13 (At.hit z12.put rfl); refine e_in ?_; obtain ⟨he1, he2⟩ := bs_more hb7; exact ⟨z13, s0_13, s1_13, s2_13, s8_13, (s9_13.same (congrArg (Value.int .i64) (by omega))), (s10_13.same (congrArg (Value.int .i64) (by omega))), low12⟩
 ·
  intro a14 w14 h; obtain ⟨z14, s0_14, s1_14, s2_14, s8_14, s9_14, s10_14, low14⟩ := h; clear s0_3 s10_3 s1_3 s2_3 s8_3 s9_3 z3; refine c_seq (c_seq (c_region ?_)); refine l_q rfl (qm rfl s9_14 (l_q rfl (qm rfl (s10_14.n1) (l_q rfl (q_lss false rfl ((At.hit z14 rfl).n1).ev (At.hit z14.put rfl).ev (decide_eq_false (by omega)) (l_end (e_fr z14.p3 fun a15 z15 m15 => ?_))))))); have s0_15 := m15 s0_14.n3; have s1_15 := m15 s1_14.n3; have s2_15 := m15 s2_14.n3; have s8_15 := m15 s8_14.n3; have s9_15 := m15 s9_14.n3; have s10_15 := m15 s10_14.n3; have s17_15 := m15 (At.hit z14.p2 rfl); refine e_then (c_false s17_15 ?_); refine wp_exit (x_then (x_then (in_exit (e_then (c_seq ?_)))))
  by_cases hb16 : (bsS l n (bsN l n)).1 < l.length
  ·
   skip
   refine c_region ?_; refine l_q rfl (qm rfl s9_15 (l_q rfl (qm rfl (s9_15.n1) (l_q rfl (qm rfl (s8_15.n2) (l_q rfl (q_lss true rfl ((At.hit z15.put rfl).n1).ev (At.hit z15.p2 rfl).ev (decide_eq_true (by omega)) (l_q rfl (qm rfl (At.hit z15.p3 rfl) (l_qg (wis rfl rfl (At.hit z15.p4 rfl) rfl) (qm rfl (s2_15.n5) (l_qg (wis rfl rfl ((At.hit z15.p4 rfl).n1) rfl) (qm rfl (s0_15.n6) (l_qg (wis rfl rfl ((At.hit z15.p4 rfl).n2) rfl) (qm rfl (s9_15.n7) (l_fr z15.p8 fun a17 z17 m17 => ?_)))))))))))))))); have s1_17 := m17 s1_15.n8; have s35_17 := m17 ((At.hit z15 rfl).n7); have s39_17 := m17 ((At.hit z15.p4 rfl).n3); have s40_17 := m17 ((At.hit z15.p5 rfl).n2); have s41_17 := m17 ((At.hit z15.p6 rfl).n1); have s42_17 := m17 (At.hit z15.p7 rfl); refine l_qg (wis rfl rfl s39_17 rfl) (q_idxF (j := ((bsS l n (bsN l n)).1)) rfl u_22 sz55 s41_17.ev (hv.low low14) s42_17.ev (by omega) ?_); refine l_qg (wis rfl rfl (s39_17.n1) rfl) (q_ldR (vs := [.string ((l.getD ((bsS l n (bsN l n)).1) zP).f0), .string ((l.getD ((bsS l n (bsN l n)).1) zP).f1)]) rfl u_55 rfl sz55 (At.hit z17 rfl).ev (fun _ e => by rw [e]; exact (hv.low low14)) (by omega) rfl (flat_part encP_len zP _ ((bsS l n (bsN l n)).1) (by omega)) ?_); refine l_qg (wis rfl rfl (s39_17.n2) rfl) (qm rfl (s1_17.n2) (l_callVg (fun v w' => v = .int .i64 (cmpB (l.getD ((bsS l n (bsN l n)).1) zP).f0 n) ∧ Low w14 w') (wis rfl rfl (s39_17.n3) rfl) rfl rfl (s40_17.n3).ev Tryd.func52 rfl (args2 rfl ((At.hit z17.put rfl).n1).ev (At.hit z17.p2 rfl).ev) (((Cmp.calls (l.getD ((bsS l n (bsN l n)).1) zP) n _)).mono fun _ _ ⟨e, k⟩ => ⟨_, e, rfl, k⟩) ?_))
   rintro _ w18 ⟨rfl, h18⟩
   have ov_18 := (hv.low low14).low h18; refine l_qg (wis rfl rfl (s39_17.n4) rfl) (q_eql _ rfl (At.hit z17.p3 rfl).ev rfl rfl ?_); refine l_q rfl (q_pick (b := true) (.bool (decide (cmpB (l.getD ((bsS l n (bsN l n)).1) zP).f0 n = 0))) rfl (s39_17.n5).ev (At.hit z17.p4 rfl).ev ?_); refine l_q rfl (qa rfl (s35_17.n6) (l_q rfl (qa rfl ((At.hit z17.p5 rfl).n1) (l_end (e_fr z17.p8 fun a19 z19 m19 => ?_))))); have s6_19 := m19 ((At.hit z17.p6 rfl).n1); have s7_19 := m19 (At.hit z17.p7 rfl); have low19 := (low14.trans h18); refine e_then (wp_ret (r_two rfl z19.defers s6_19 s7_19 ?_)); exact ⟨by unfold bsB bsP; rw [if_pos hb16], low19⟩
  ·
   skip
   refine c_region ?_; refine l_q rfl (qm rfl s9_15 (l_q rfl (qm rfl (s9_15.n1) (l_q rfl (qm rfl (s8_15.n2) (l_q rfl (q_lss false rfl ((At.hit z15.put rfl).n1).ev (At.hit z15.p2 rfl).ev (decide_eq_false (by omega)) (l_q rfl (qm rfl (At.hit z15.p3 rfl) (l_skip (wis rfl rfl (At.hit z15.p4 rfl) rfl) (l_skip (wis rfl rfl ((At.hit z15.p4 rfl).n1) rfl) (l_skip (wis rfl rfl ((At.hit z15.p4 rfl).n2) rfl) (l_fr z15.p8 fun a20 z20 m20 => ?_))))))))))))); have s1_20 := m20 s1_15.n8; have s35_20 := m20 ((At.hit z15 rfl).n7); have s39_20 := m20 ((At.hit z15.p4 rfl).n3); have s40_20 := m20 ((At.hit z15.p5 rfl).n2); have s41_20 := m20 ((At.hit z15.p6 rfl).n1); have s42_20 := m20 (At.hit z15.p7 rfl); refine l_skip (wis rfl rfl s39_20 rfl) ?_; refine l_skip (wis rfl rfl (s39_20.n1) rfl) ?_; refine l_skip (wis rfl rfl (s39_20.n2) rfl) ?_; refine l_skip (wis rfl rfl (s39_20.n3) rfl) ?_; refine l_skip (wis rfl rfl (s39_20.n4) rfl) ?_; refine l_q rfl (q_pick (b := false) (.bool false) rfl (s39_20.n5).ev rfl ?_); refine l_q rfl (qa rfl (s35_20.n6) (l_q rfl (qa rfl ((At.hit z20.p5 rfl).n1) (l_end (e_fr z20.p8 fun a21 z21 m21 => ?_))))); have s6_21 := m21 ((At.hit z20.p6 rfl).n1); have s7_21 := m21 (At.hit z20.p7 rfl); refine e_then (wp_ret (r_two rfl z21.defers s6_21 s7_21 ?_)); exact ⟨by unfold bsB bsP; rw [if_neg hb16], low14⟩
theorem Place.calls (v : Value) (l : List Rf) (hl : l.length ≤ 1000000) (n : ByteArray) (w0 : World) (hv : RdF w0 2 v l.length (l.map encP).flatten) : Calls Tryd.prog 26 #[v, .string n] w0 fun e w' => e = .returned (.tuple #[.int .i64 ((bsP l n : Nat) : Int), .bool (bsB l n)]) ∧ Low w0 w' := by
 refine c_fun (R := _) Tryd.func26 rfl 11 rfl (Nat.le_of_ble_eq_true rfl) ?_; intro a z hA; have s0 := hA 0 _ rfl; have s1 := hA 1 _ rfl; clear hA; refine c_seq (c_region ?_); refine l_q rfl (q_assign _ _ rfl rfl ?_); refine l_q rfl (q_assign _ _ rfl rfl ?_); refine l_end (e_fr z.p2 fun a1 z1 m1 => ?_); have s0_1 := m1 s0.n2; have s1_1 := m1 s1.n2; refine e_then (c_seq (c_region ?_)); refine l_q rfl (qm rfl s0_1 (l_q rfl (qm rfl (s1_1.n1) (l_call (fun v w' => v = .tuple #[.int .i64 (((bsP l n) : Nat) : Int), .bool (bsB l n)] ∧ Low w0 w') rfl rfl rfl Tryd.func51 rfl (args3 rfl ((At.hit z1 rfl).n1).ev (At.hit z1.put rfl).ev rfl) ((Search.calls v l hl n _ hv).mono fun _ _ ⟨e, k⟩ => ⟨_, e, rfl, k⟩) ?_))))
 rintro _ w2 ⟨rfl, h2⟩
 have ov_2 := hv.low h2; refine l_q rfl (q_extract rfl (At.hit z1.p2 rfl).ev rfl ?_); refine l_q rfl (q_extract rfl ((At.hit z1.p2 rfl).n1).ev rfl ?_); refine l_q rfl (qa rfl ((At.hit z1.p3 rfl).n1) (l_q rfl (qa rfl ((At.hit z1.p4 rfl).n1) (l_end (e_fr z1.p7 fun a3 z3 m3 => ?_))))); have s4_3 := m3 ((At.hit z1.p5 rfl).n1); have s5_3 := m3 (At.hit z1.p6 rfl); have low3 := h2; refine e_then (wp_ret (r_two rfl z3.defers s4_3 s5_3 ?_)); exact ⟨rfl, low3⟩
theorem EqualS.calls (va vb : Value) (la lb : List Rf) (hl : la.length ≤ 1000000) (hl' : lb.length ≤ 1000000) (w0 : World) (hva : RdF w0 2 va la.length (la.map encP).flatten) (hvb : RdF w0 2 vb lb.length (lb.map encP).flatten) : Calls Tryd.prog 48 #[va, vb] w0 fun e w' => e = .returned (.bool (decide (la = lb))) ∧ Low w0 w' := by
 refine c_fun (R := _) Tryd.func48 rfl 26 rfl (Nat.le_of_ble_eq_true rfl) ?_; intro a z hA; have s0 := hA 0 _ rfl; have s1 := hA 1 _ rfl; clear hA; refine c_seq (c_region ?_); refine l_q rfl (q_assign _ _ rfl rfl ?_); refine l_end (e_fr z.put fun a1 z1 m1 => ?_); have s0_1 := m1 s0.n1; have s1_1 := m1 s1.n1; refine e_then (c_seq (c_seq ?_))
 by_cases hb2 : la.length ≠ lb.length
 ·
  skip
  refine c_region ?_; refine l_q rfl (qm rfl s0_1 (l_q rfl (q_lenF rfl rfl u_22 (At.hit z1 rfl).ev hva (l_q rfl (qm rfl (s1_1.n2) (l_q rfl (q_lenF rfl rfl u_22 (At.hit z1.p2 rfl).ev hvb (l_q rfl (q_neq true rfl ((At.hit z1.put rfl).n2).ev (At.hit z1.p3 rfl).ev (decide_eq_true (by omega)) (l_end (e_fr z1.p5 fun a3 z3 m3 => ?_))))))))))); have s0_3 := m3 s0_1.n5; have s1_3 := m3 s1_1.n5; have s10_3 := m3 (At.hit z1.p4 rfl); refine e_then (c_true s10_3 ?_); refine c_seq (c_region ?_); refine l_q rfl (q_assign _ _ rfl rfl ?_); refine l_end (e_fr z3.put fun a4 z4 m4 => ?_); have s4_4 := m4 (At.hit z3 rfl); refine e_then (wp_ret (ret_then (r_tmp rfl z4.defers s4_4 ?_))); exact ⟨by rw [decide_eq_false (fun h => hb2 (congrArg List.length h))]; rfl, (Low.refl _)⟩
 ·
  skip
  refine c_region ?_; refine l_q rfl (qm rfl s0_1 (l_q rfl (q_lenF rfl rfl u_22 (At.hit z1 rfl).ev hva (l_q rfl (qm rfl (s1_1.n2) (l_q rfl (q_lenF rfl rfl u_22 (At.hit z1.p2 rfl).ev hvb (l_q rfl (q_neq false rfl ((At.hit z1.put rfl).n2).ev (At.hit z1.p3 rfl).ev (decide_eq_false (by omega)) (l_end (e_fr z1.p5 fun a5 z5 m5 => ?_))))))))))); have s0_5 := m5 s0_1.n5; have s1_5 := m5 s1_1.n5; have s10_5 := m5 (At.hit z1.p4 rfl); refine e_then (c_false s10_5 ?_); refine wp_skip (e_then (c_seq (c_seq (c_region ?_)))); refine l_q rfl (qm rfl s0_5 (l_q rfl (q_lenF rfl rfl u_22 (At.hit z5 rfl).ev hva (l_q rfl (q_move _ _ rfl rfl (l_end (e_fr z5.p3 fun a6 z6 m6 => ?_))))))); have s0_6 := m6 s0_5.n3; have s1_6 := m6 s1_5.n3; have s12_6 := m6 ((At.hit z5.put rfl).n1); have s13_6 := m6 (At.hit z5.p2 rfl); refine e_then (wp_block (c_loop (fdiff la lb zP) (fun k a w => Fr 26 a ∧ At a 0 (va) ∧ At a 1 (vb) ∧ At a 12 (.int .i64 ((la.length : Nat) : Int)) ∧ At a 13 (.int .i64 ((k : Nat) : Int)) ∧ Low w0 w) ?_ ?_ ?_))
  ·
   exact ⟨z6, s0_6, s1_6, s12_6, s13_6, (Low.refl _)⟩
  ·
   intro k a7 w7 hk7 h; obtain ⟨z7, s0_7, s1_7, s12_7, s13_7, low7⟩ := h; clear s0_6 s12_6 s13_6 s1_6 z6; have hle := fdiff_le la lb zP; refine c_seq (c_region ?_); refine l_q rfl (q_lss true rfl s13_7.ev s12_7.ev (decide_eq_true (by omega)) ?_); refine l_end (e_fr z7.put fun a8 z8 m8 => ?_); have s0_8 := m8 s0_7.n1; have s1_8 := m8 s1_7.n1; have s12_8 := m8 s12_7.n1; have s13_8 := m8 s13_7.n1; have s14_8 := m8 (At.hit z7 rfl); refine e_then (c_seq (c_true s14_8 ?_)); refine wp_skip (e_then (c_seq (wp_block (c_seq (c_region ?_))))); refine l_q rfl (qm rfl s13_8 (l_q rfl (qa rfl (At.hit z8 rfl) (l_end (e_fr z8.p2 fun a9 z9 m9 => ?_))))); have s0_9 := m9 s0_8.n2; have s1_9 := m9 s1_8.n2; have s5_9 := m9 (At.hit z8.put rfl); have s12_9 := m9 s12_8.n2; have s13_9 := m9 s13_8.n2; refine e_then (c_seq (region_low hm (by kernel_rfl) ?_)); refine qs (qm rfl s0_9 (qs (qm rfl (s5_9.n1) (qs (q_idxF (j := k) rfl u_22 sz55 ((At.hit z9 rfl).n1).ev (hva.low low7) (At.hit z9.put rfl).ev (by omega) (qs (q_ldR (vs := [.string ((la.getD k zP).f0), .string ((la.getD k zP).f1)]) rfl u_55 rfl sz55 (At.hit z9.p2 rfl).ev (fun _ h => ((hva.low low7).low h)) (by omega) rfl (flat_part encP_len zP _ k (by omega)) (qs (qm rfl (s1_9.n4) (qs (qm rfl (s5_9.n5) (qs (q_idxF (j := k) rfl u_22 sz55 ((At.hit z9.p4 rfl).n1).ev (hvb.low low7) (At.hit z9.p5 rfl).ev (by omega) (qs (q_ldR (vs := [.string ((lb.getD k zP).f0), .string ((lb.getD k zP).f1)]) rfl u_55 rfl sz55 (At.hit z9.p6 rfl).ev (fun _ h => ((hvb.low low7).low h)) (by omega) rfl (flat_part encP_len zP _ k (by omega)) (q_fr z9.p8 fun a10 z10 m10 => ?_)))))))))))))))); have s0_10 := m10 s0_9.n8; have s1_10 := m10 s1_9.n8; have s12_10 := m10 s12_9.n8; have s13_10 := m10 s13_9.n8; have s19_10 := m10 ((At.hit z9.p3 rfl).n4); have s23_10 := m10 (At.hit z9.p7 rfl); refine qs (q_ne3 false rfl guard55 s19_10.ev s23_10.ev (eq55 9998 ((la.getD k zP).f0) ((la.getD k zP).f1) ((lb.getD k zP).f0) ((lb.getD k zP).f1)) (neP_false (fdiff_round (by assumption))) ?_); refine qz ?_; intro w11 h11; have ova_11 := (hva.low low7).low h11; have ovb_11 := (hvb.low low7).low h11; refine e_id (e_fr z10.put fun a12 z12 m12 => ?_); have s0_12 := m12 s0_10.n1; have s1_12 := m12 s1_10.n1; have s12_12 := m12 s12_10.n1; have s13_12 := m12 s13_10.n1; have s24_12 := m12 (At.hit z10 rfl); have low12 := (low7.trans h11); refine e_then (c_false s24_12 ?_); refine wp_skip (e_in (e_then (c_region ?_))); refine l_q rfl (q_add (((k + 1 : Nat) : Int)) rfl s13_12.ev rfl (i64_is (by omega) (by omega) (by omega)) ?_); refine l_q rfl (qm rfl (At.hit z12 rfl) (l_end (e_fr z12.p2 fun a13 z13 m13 => ?_))); have s0_13 := m13 s0_12.n2; have s1_13 := m13 s1_12.n2; have s12_13 := m13 s12_12.n2; have s13_13 := m13 (At.hit z12.put rfl); exact ⟨z13, s0_13, s1_13, s12_13, s13_13, low12⟩
  ·
   intro a14 w14 h; obtain ⟨z14, s0_14, s1_14, s12_14, s13_14, low14⟩ := h; clear s0_6 s12_6 s13_6 s1_6 z6; have hle := fdiff_le la lb zP; refine c_seq ?_
   by_cases hb15 : fdiff la lb zP < la.length
   ·
    skip
    refine c_region ?_; refine l_q rfl (q_lss true rfl s13_14.ev s12_14.ev (decide_eq_true (by omega)) ?_); refine l_end (e_fr z14.put fun a16 z16 m16 => ?_); have s0_16 := m16 s0_14.n1; have s1_16 := m16 s1_14.n1; have s13_16 := m16 s13_14.n1; have s14_16 := m16 (At.hit z14 rfl); refine e_then (c_seq (c_true s14_16 ?_)); refine wp_skip (e_then (c_seq (wp_block (c_seq (c_region ?_))))); refine l_q rfl (qm rfl s13_16 (l_q rfl (qa rfl (At.hit z16 rfl) (l_end (e_fr z16.p2 fun a17 z17 m17 => ?_))))); have s0_17 := m17 s0_16.n2; have s1_17 := m17 s1_16.n2; have s5_17 := m17 (At.hit z16.put rfl); have s13_17 := m17 s13_16.n2; refine e_then (c_seq (region_low hm (by kernel_rfl) ?_)); refine qs (qm rfl s0_17 (qs (qm rfl (s5_17.n1) (qs (q_idxF (j := (fdiff la lb zP)) rfl u_22 sz55 ((At.hit z17 rfl).n1).ev (hva.low low14) (At.hit z17.put rfl).ev (by omega) (qs (q_ldR (vs := [.string ((la.getD (fdiff la lb zP) zP).f0), .string ((la.getD (fdiff la lb zP) zP).f1)]) rfl u_55 rfl sz55 (At.hit z17.p2 rfl).ev (fun _ h => ((hva.low low14).low h)) (by omega) rfl (flat_part encP_len zP _ (fdiff la lb zP) (by omega)) (qs (qm rfl (s1_17.n4) (qs (qm rfl (s5_17.n5) (qs (q_idxF (j := (fdiff la lb zP)) rfl u_22 sz55 ((At.hit z17.p4 rfl).n1).ev (hvb.low low14) (At.hit z17.p5 rfl).ev (by omega) (qs (q_ldR (vs := [.string ((lb.getD (fdiff la lb zP) zP).f0), .string ((lb.getD (fdiff la lb zP) zP).f1)]) rfl u_55 rfl sz55 (At.hit z17.p6 rfl).ev (fun _ h => ((hvb.low low14).low h)) (by omega) rfl (flat_part encP_len zP _ (fdiff la lb zP) (by omega)) (q_fr z17.p8 fun a18 z18 m18 => ?_)))))))))))))))); have s13_18 := m18 s13_17.n8; have s19_18 := m18 ((At.hit z17.p3 rfl).n4); have s23_18 := m18 (At.hit z17.p7 rfl); refine qs (q_ne3 true rfl guard55 s19_18.ev s23_18.ev (eq55 9998 ((la.getD (fdiff la lb zP) zP).f0) ((la.getD (fdiff la lb zP) zP).f1) ((lb.getD (fdiff la lb zP) zP).f0) ((lb.getD (fdiff la lb zP) zP).f1)) (neP_true (fdiff_stop (by assumption))) ?_); refine qz ?_; intro w19 h19; have ova_19 := (hva.low low14).low h19; have ovb_19 := (hvb.low low14).low h19; refine e_id (e_fr z18.put fun a20 z20 m20 => ?_); have s13_20 := m20 s13_18.n1; have s24_20 := m20 (At.hit z18 rfl); have low20 := (low14.trans h19); refine e_then (c_true s24_20 ?_); refine c_seq (c_region ?_); refine l_q rfl (q_assign _ _ rfl rfl ?_); refine l_end (e_fr z20.put fun a21 z21 m21 => ?_); have s4_21 := m21 (At.hit z20 rfl); refine e_then (wp_ret (ret_in (ret_then (ret_then (ret_in (ret_then (r_tmp rfl z21.defers s4_21 ?_))))))); exact ⟨by rw [decide_eq_false (fdiff_ne hb15)]; rfl, low20⟩
   ·
    skip
    refine c_region ?_; refine l_q rfl (q_lss false rfl s13_14.ev s12_14.ev (decide_eq_false (by omega)) ?_); refine l_end (e_fr z14.put fun a22 z22 m22 => ?_); have s0_22 := m22 s0_14.n1; have s1_22 := m22 s1_14.n1; have s13_22 := m22 s13_14.n1; have s14_22 := m22 (At.hit z14 rfl); refine e_then (c_seq (c_false s14_22 ?_)); refine wp_exit (x_then (x_then (in_exit (e_then (c_seq (c_region ?_)))))); refine l_q rfl (q_assign _ _ rfl rfl ?_); refine l_end (e_fr z22.put fun a23 z23 m23 => ?_); have s4_23 := m23 (At.hit z22 rfl); refine e_then (wp_ret (r_tmp rfl z23.defers s4_23 ?_)); exact ⟨by rw [decide_eq_true (fdiff_eq (by omega) hb15)]; rfl, low14⟩
def sameS (ha hb : ByteArray) (la lb : List Rf) : Bool := decide (ha = hb) && decide (la = lb)
theorem Same.calls (ha hb : ByteArray) (va vb : Value) (la lb : List Rf) (hl : la.length ≤ 1000000) (hl' : lb.length ≤ 1000000) (w0 : World) (hva : RdF w0 2 va la.length (la.map encP).flatten) (hvb : RdF w0 2 vb lb.length (lb.map encP).flatten) : Calls Tryd.prog 22 #[.agg #[.string ha, va], .agg #[.string hb, vb]] w0 fun e w' => e = .returned (.bool (sameS ha hb la lb)) ∧ Low w0 w' := by
 refine c_fun (R := _) Tryd.func22 rfl 17 rfl (Nat.le_of_ble_eq_true rfl) ?_; intro a z hA; have s0 := hA 0 _ rfl; have s1 := hA 1 _ rfl; clear hA; refine c_seq (c_region (l_box rfl rfl s0.ev ?_)); intro g2 w1 hg1 k1 h1; have geg2 := Nat.le_trans (Low.refl _).ge hg1; have ova_1 := hva.low h1; have ovb_1 := hvb.low h1; refine l_box rfl rfl (s1.n1).ev ?_; intro g3 w2 hg2 k2 h2; have lt_g2_g3 := Nat.lt_of_lt_of_le (heap_lt k1) hg2; have geg3 := Nat.le_trans h1.ge hg2; have kg2_2 := h2.blk k1; have ova_2 := ova_1.low h2; have ovb_2 := ovb_1.low h2; refine l_q rfl (q_assign _ _ rfl rfl ?_); refine l_end (e_fr z.p3 fun a3 z3 m3 => ?_); have s2_3 := m3 ((At.hit z rfl).n2); have s3_3 := m3 ((At.hit z.put rfl).n1); have low3 := (h1.trans h2); refine e_then (c_seq ?_)
 by_cases hb4 : ha = hb
 ·
  skip
  refine c_region ?_; refine l_q rfl (q_fld 0 rfl (by kernel_rfl) s2_3.ev ?_); refine l_q rfl (q_cellT (.string ha) rfl u_9 (At.hit z3 rfl).ev (fun _ e => by rw [e]; exact (cells_at kg2_2 0).trans rfl) ?_); refine l_q rfl (q_fld 0 rfl (by kernel_rfl) (s3_3.n2).ev ?_); refine l_q rfl (q_cellT (.string hb) rfl u_9 (At.hit z3.p2 rfl).ev (fun _ e => by rw [e]; exact (cells_at k2 0).trans rfl) ?_); refine l_q rfl (q_streq true rfl ((At.hit z3.put rfl).n2).ev (At.hit z3.p3 rfl).ev (strT hb4) ?_); refine l_q rfl (qm rfl (At.hit z3.p4 rfl) (l_qg (wis rfl rfl (At.hit z3.p5 rfl) rfl) (q_fld 1 rfl (by kernel_rfl) (s2_3.n6).ev (l_qg (wis rfl rfl ((At.hit z3.p5 rfl).n1) rfl) (q_cellS (va) rfl u_22 (At.hit z3.p6 rfl).ev (fun _ e => by rw [e]; exact (cells_at kg2_2 1).trans rfl) (l_fr z3.p8 fun a5 z5 m5 => ?_)))))); have s3_5 := m5 s3_3.n8; have s10_5 := m5 ((At.hit z3.p5 rfl).n2); have s12_5 := m5 (At.hit z3.p7 rfl); refine l_qg (wis rfl rfl s10_5 rfl) (q_fld 1 rfl (by kernel_rfl) s3_5.ev ?_); refine l_qg (wis rfl rfl (s10_5.n1) rfl) (q_cellS (vb) rfl u_22 (At.hit z5 rfl).ev (fun _ e => by rw [e]; exact (cells_at k2 1).trans rfl) ?_); refine l_callg (fun v w' => v = .bool (decide (la = lb)) ∧ Low w2 w') (wis rfl rfl (s10_5.n2) rfl) rfl rfl Tryd.func48 rfl (args2 rfl (s12_5.n2).ev (At.hit z5.put rfl).ev) ((EqualS.calls va vb la lb hl hl' _ ova_2 ovb_2).mono fun _ _ ⟨e, k⟩ => ⟨_, e, rfl, k⟩) ?_
  rintro _ w6 ⟨rfl, h6⟩
  have kg2_6 := h6.blk kg2_2; have kg3_6 := h6.blk k2; have ova_6 := ova_2.low h6; have ovb_6 := ovb_2.low h6; refine l_q rfl (q_pick (b := true) (.bool (decide (la = lb))) rfl (s10_5.n3).ev (At.hit z5.p2 rfl).ev ?_); refine l_q rfl (qa rfl (At.hit z5.p3 rfl) (l_end (e_fr z5.p5 fun a7 z7 m7 => ?_))); have s4_7 := m7 (At.hit z5.p4 rfl); have low7 := (low3.trans h6); refine e_then (wp_ret (r_tmp rfl z7.defers s4_7 ?_)); exact ⟨by unfold sameS; rw [decide_eq_true hb4]; rfl, low7⟩
 ·
  skip
  refine c_region ?_; refine l_q rfl (q_fld 0 rfl (by kernel_rfl) s2_3.ev ?_); refine l_q rfl (q_cellT (.string ha) rfl u_9 (At.hit z3 rfl).ev (fun _ e => by rw [e]; exact (cells_at kg2_2 0).trans rfl) ?_); refine l_q rfl (q_fld 0 rfl (by kernel_rfl) (s3_3.n2).ev ?_); refine l_q rfl (q_cellT (.string hb) rfl u_9 (At.hit z3.p2 rfl).ev (fun _ e => by rw [e]; exact (cells_at k2 0).trans rfl) ?_); refine l_q rfl (q_streq false rfl ((At.hit z3.put rfl).n2).ev (At.hit z3.p3 rfl).ev (strF hb4) ?_); refine l_q rfl (qm rfl (At.hit z3.p4 rfl) (l_skip (wis rfl rfl (At.hit z3.p5 rfl) rfl) (l_skip (wis rfl rfl ((At.hit z3.p5 rfl).n1) rfl) (l_fr z3.p8 fun a8 z8 m8 => ?_)))); have s3_8 := m8 s3_3.n8; have s10_8 := m8 ((At.hit z3.p5 rfl).n2); have s12_8 := m8 (At.hit z3.p7 rfl); refine l_skip (wis rfl rfl s10_8 rfl) ?_; refine l_skip (wis rfl rfl (s10_8.n1) rfl) ?_; refine l_skip (wis rfl rfl (s10_8.n2) rfl) ?_; refine l_q rfl (q_pick (b := false) (.bool false) rfl (s10_8.n3).ev rfl ?_); refine l_q rfl (qa rfl (At.hit z8.p3 rfl) (l_end (e_fr z8.p5 fun a9 z9 m9 => ?_))); have s4_9 := m9 (At.hit z8.p4 rfl); refine e_then (wp_ret (r_tmp rfl z9.defers s4_9 ?_)); exact ⟨by unfold sameS; rw [decide_eq_false hb4]; rfl, low3⟩
end Go.Proofs.YtnhchnlgleokoaaDoor.Q
end
/-! WLast -/
section
namespace Go.Proofs.YtnhchnlgleokoaaDoorW.PrintLast
section
variable {P : Program} {ops : Array Oper} {Q : Exit → Act → World → Prop} {md : Region.Mode} {S : World → Prop} {ds : List Nat}
/-- Operation d waits for operation i, by a chain of at most 'fuel' edges. -/
def Region.reachB (md : Region.Mode) (ops : Array Oper) (i : Nat) : Nat → Nat → Bool
  | 0, _ => false
  | fuel + 1, d => match ops[d]? with
    | some o => o.after.any fun e => Region.binds md e && (e.on == i || Region.reachB md ops i fuel e.on)
    | none => false
/-- Each of ds that has not come up yet waits for number i. -/
def Region.lastB (md : Region.Mode) (ops : Array Oper) (listed : Array Bool) (ds : List Nat) (i : Nat) : Bool :=
  ds.all fun d => listed.getD d true || Region.reachB md ops i ops.size d
/-- Whatever order is picked from here on, AND 'S' HOLDS BEHIND EVERY OPERATION THAT IS CARRIED OUT, those of ds apart. -/
def wpAnyLast (P : Program) (md : Region.Mode) (ops : Array Oper) (Q : Exit → Act → World → Prop) (S : World → Prop) (ds : List Nat) : Nat → Array Bool → Act → World → Prop
  | 0, listed, a, w => Region.ready md ops listed = [] ∧ Q .normal a w
  | fuel + 1, listed, a, w =>
    (Region.ready md ops listed = [] → Q .normal a w) ∧
    ∀ i ∈ Region.ready md ops listed, wpOp P ops Q i (fun a' w' => (i ∉ ds → S w → S w') ∧ wpAnyLast P md ops Q S ds fuel (listed.setIfInBounds i true) a' w') a w
theorem wpAny_of_last : ∀ (fuel : Nat) (listed : Array Bool) (a : Act) (w : World), wpAnyLast P md ops Q S ds fuel listed a w → wpAny P md ops Q fuel listed a w
  | 0, _, _, _, h => h
  | fuel + 1, _, _, _, h => ⟨h.1, fun i hi => wpOp_mono (fun a' w' h' => wpAny_of_last fuel _ a' w' h'.2) (h.2 i hi)⟩
/-- Take number 'i' first, which yields whatever the world: no S is asked for, nor that anything waits for it. -/
theorem wpAnyLast_any {i : Nat} {oi : Oper} {v : Value} (hi : ops[i]? = some oi) (hsel : ∀ (j : Nat) (o : Oper) cs b, ops[j]? = some o → o.op ≠ .select cs b)
    (hQ : ∀ c a w, Q (.panic c) (a.put oi.dst v) w → Q (.panic c) a w) :
    ∀ (fuel : Nat) (listed : Array Bool) (a : Act) (w : World),
      (∀ j oj, ops[j]? = some oj → j ≠ i → listed.getD j true = false → (∀ e ∈ oj.after, Region.binds md e = true → e.on ≠ i) → oi.apart ops oj = true) →
      i ∈ Region.ready md ops listed → Yields P ops oi v a →
      wpAnyLast P md ops Q S ds fuel (listed.setIfInBounds i true) (a.put oi.dst v) w → wpAnyLast P md ops Q S ds (fuel + 1) listed a w := by
  intro fuel
  induction fuel with
  | zero =>
    intro listed a w _ hr hy H
    refine ⟨fun h => (by rw [h] at hr; cases hr), fun j hj => ?_⟩
    by_cases hji : j = i
    · subst hji; exact (hy.yieldsIf (S := fun _ => True)).wpOp hi trivial ⟨fun _ h => h, H⟩
    · have := ready_mono hj hji
      rw [H.1] at this
      cases this
  | succ fuel ih =>
    intro listed a w hfree hr hy H
    refine ⟨fun h => (by rw [h] at hr; cases hr), fun j hj => ?_⟩
    by_cases hji : j = i
    · subst hji; exact (hy.yieldsIf (S := fun _ => True)).wpOp hi trivial ⟨fun _ h => h, H⟩
    · have h1 := H.2 j (ready_mono hj hji)
      obtain ⟨hjun, oj, hoj, hall⟩ := mem_ready.1 hj
      have hiun := (mem_ready.1 hr).1
      have hnot : ∀ e ∈ oj.after, Region.binds md e = true → e.on ≠ i := fun e he hb heq => by
        have h1 := hall e he hb
        rw [heq] at h1
        rcases Nat.lt_or_ge i listed.size with h' | h'
        · simp [h'] at hiun h1; rw [hiun] at h1; cases h1
        · simp [Array.getElem?_eq_none h'] at h1
      have h2 := wpOp_put hoj (hfree j oj hoj hji hjun hnot) (fun cs b => hsel i oi cs b hi) (fun cs b => hsel j oj cs b hoj) hQ hy h1
      have hfree' : ∀ k ok, ops[k]? = some ok → k ≠ i → (listed.setIfInBounds j true).getD k true = false →
          (∀ e ∈ ok.after, Region.binds md e = true → e.on ≠ i) → oi.apart ops ok = true := fun k ok hk hki hun hno => by
        refine hfree k ok hk hki ?_ hno
        by_cases hjk : j = k
        · subst hjk; exact hjun
        · rw [getD_set_ne true hjk] at hun; exact hun
      refine wpOp_mono (fun a' w' h3 => ⟨h3.2.1, ih (listed.setIfInBounds j true) a' w' hfree' (ready_mono hr (Ne.symm hji)) h3.1 ?_⟩) h2
      rw [Array.setIfInBounds_comm _ _ hji]
      exact h3.2.2
theorem wpAnyLast_all {rs : List Nat} {fuel : Nat} {listed : Array Bool} {a : Act} {w : World} (hr : Region.ready md ops listed = rs) (hne : rs ≠ [])
    (h : ∀ i ∈ rs, wpOp P ops Q i (fun a' w' => (i ∉ ds → S w → S w') ∧ wpAnyLast P md ops Q S ds fuel (listed.setIfInBounds i true) a' w') a w) : wpAnyLast P md ops Q S ds (fuel + 1) listed a w :=
  ⟨fun h0 => absurd (hr ▸ h0) hne, hr ▸ h⟩
theorem wpAnyLast_done {listed : Array Bool} {a : Act} {w : World} (hr : Region.ready md ops listed = []) (h : Q .normal a w) :
    ∀ fuel, wpAnyLast P md ops Q S ds fuel listed a w
  | 0 => ⟨hr, h⟩
  | _ + 1 => ⟨fun _ => h, by rw [hr]; simp⟩
theorem wp_region_last {id : Nat} {a : Act} {w : World} (hm : P.follows .mixedOrders = true)
    (h : wpAnyLast P .any ops Q S ds ops.size (Array.replicate ops.size false) a { w with drawn := w.drawn + 1 }) : (Code.region id ops true).wp P Q a w :=
  wp_region_any hm (wpAny_of_last _ _ _ _ h)
end
section
variable {P : Program} {ops : Array Oper} {Q : Exit → Act → World → Prop} {md : Region.Mode} {S : World → Prop} {ds : List Nat}
def AllReadyL (P : Program) (md : Region.Mode) (ops : Array Oper) (Q : Exit → Act → World → Prop) (S : World → Prop) (ds : List Nat) (fuel : Nat) (listed : Array Bool) (a : Act) (w : World) (rs : List Nat) : Prop :=
  ∀ i ∈ rs, wpOp P ops Q i (fun a' w' => (i ∉ ds → S w → S w') ∧ wpAnyLast P md ops Q S ds fuel (listed.setIfInBounds i true) a' w') a w
theorem AllReadyL.nil {fuel : Nat} {listed : Array Bool} {a : Act} {w : World} : AllReadyL P md ops Q S ds fuel listed a w [] := fun _ h => by cases h
theorem AllReadyL.cons {fuel : Nat} {listed : Array Bool} {a : Act} {w : World} {i : Nat} {o : Oper} {rs : List Nat} (ho : ops[i]? = some o) (hd : i ∉ ds)
    (h : ∀ K' : Act → World → Prop, Shut (∀ a w, S w → (S w → wpAnyLast P md ops Q S ds fuel (listed.setIfInBounds i true) a w) → K' a w) → if Region.wanted o (yielded ops a.tmps) = true then Oper.wp P o a w K' Q else K' (a.put o.dst undef) w)
    (hs : AllReadyL P md ops Q S ds fuel listed a w rs) : AllReadyL P md ops Q S ds fuel listed a w (i :: rs) := fun j hj => by
  rcases List.mem_cons.1 hj with rfl | hj
  · exact wpOp_step ho (fun K' hK => h K' (fun a w hS hW => hK a w ⟨fun _ _ => hS, hW hS⟩))
  · exact hs j hj
/-- Behind an operation of ds nothing is shown. -/
theorem AllReadyL.cons_last {fuel : Nat} {listed : Array Bool} {a : Act} {w : World} {i : Nat} {o : Oper} {rs : List Nat} (ho : ops[i]? = some o) (hd : i ∈ ds)
    (h : ∀ K' : Act → World → Prop, Shut (∀ a w, wpAnyLast P md ops Q S ds fuel (listed.setIfInBounds i true) a w → K' a w) → if Region.wanted o (yielded ops a.tmps) = true then Oper.wp P o a w K' Q else K' (a.put o.dst undef) w)
    (hs : AllReadyL P md ops Q S ds fuel listed a w rs) : AllReadyL P md ops Q S ds fuel listed a w (i :: rs) := fun j hj => by
  rcases List.mem_cons.1 hj with rfl | hj
  · exact wpOp_step ho (fun K' hK => h K' (fun a w hW => hK a w ⟨fun hn => absurd hd hn, hW⟩))
  · exact hs j hj
theorem wpAnyLast_ready {rs : List Nat} {fuel : Nat} {listed : Array Bool} {a : Act} {w : World} (hr : Region.ready md ops listed = rs) (hne : rs ≠ [])
    (h : AllReadyL P md ops Q S ds fuel listed a w rs) : wpAnyLast P md ops Q S ds (fuel + 1) listed a w := wpAnyLast_all hr hne h
/-- THE SAME STEPS WITH WHAT HAS COME UP WRITTEN OUT (a literal array of Bools) and one check a step: quicker, and what is printed stays short. -/
theorem start_ {id n : Nat} {a : Act} {w : World} (l : Array Bool) (hm : P.follows .mixedOrders = true) (hn : ops.size = n) (hl : Array.replicate n false = l) (hS : S w.drew)
    (h : S w.drew → wpAnyLast P .any ops Q S ds n l a w.drew) : (Code.region id ops true).wp P Q a w := by
  subst hn
  subst hl
  exact wp_region_last hm (h hS)
def anyB (md : Region.Mode) (ops : Array Oper) (l l' : Array Bool) (i : Nat) : Bool :=
  Region.noSelect ops && Region.free md ops l i && (Region.ready md ops l).contains i && (l.setIfInBounds i true == l')
/-- An operation that yields in every world (a move, a number, an address): taken first wherever it may come up, behind a store too. -/
theorem pure_ {i : Nat} {N : Option Tmp} {oi : Oper} {v : Value} {fuel : Nat} {l : Array Bool} {a : Act} {w : World} (l' : Array Bool) (hi : ops[i]? = some oi) (hN : oi.dst = N) (hc : anyB md ops l l' i = true)
    (hQ : ∀ c a w, Q (.panic c) (a.put oi.dst v) w → Q (.panic c) a w) (hy : Yields P ops oi v a) {a' : Act} (ha : a.put N v = a')
    (h : wpAnyLast P md ops Q S ds fuel l' a' w) : wpAnyLast P md ops Q S ds (fuel + 1) l a w := by
  subst ha
  subst hN
  simp only [anyB, Bool.and_eq_true, beq_iff_eq] at hc
  obtain ⟨⟨⟨h1, h2⟩, h3⟩, h6⟩ := hc
  subst h6
  exact wpAnyLast_any hi (Region.noSelect_spec h1) hQ fuel l a w (Region.free_spec hi h2) (by simpa using h3) hy h
def readyB (md : Region.Mode) (ops : Array Oper) (l l' : Array Bool) (i : Nat) : Bool := (Region.ready md ops l == [i]) && (l.setIfInBounds i true == l')
/-- One operation alone may come up now (a call, a build, an append ..): it is run, S is shown behind it. -/
theorem one_ {i : Nat} {N : Option Tmp} {oi : Oper} {fuel : Nat} {l : Array Bool} {a : Act} {w : World} (l' : Array Bool) (hi : ops[i]? = some oi) (hN : oi.dst = N) (hc : readyB md ops l l' i = true) (hd : i ∉ ds)
    (h : ∀ K : Act → World → Prop, Shut (∀ a' w', S w' → (S w' → wpAnyLast P md ops Q S ds fuel l' a' w') → K a' w') → if Region.wanted oi (yielded ops a.tmps) = true then Oper.wp P oi a w K Q else K (a.put N undef) w) :
    wpAnyLast P md ops Q S ds (fuel + 1) l a w := by
  subst hN
  simp only [readyB, Bool.and_eq_true, beq_iff_eq] at hc
  obtain ⟨h1, h2⟩ := hc
  subst h2
  exact wpAnyLast_ready h1 (by simp) (AllReadyL.cons hi hd (fun K hK => h K hK) AllReadyL.nil)
/-- The same for one of ds: nothing is shown behind it. -/
theorem last_ {i : Nat} {N : Option Tmp} {oi : Oper} {fuel : Nat} {l : Array Bool} {a : Act} {w : World} (l' : Array Bool) (hi : ops[i]? = some oi) (hN : oi.dst = N) (hc : readyB md ops l l' i = true) (hd : i ∈ ds)
    (h : ∀ K : Act → World → Prop, Shut (∀ a' w', wpAnyLast P md ops Q S ds fuel l' a' w' → K a' w') → if Region.wanted oi (yielded ops a.tmps) = true then Oper.wp P oi a w K Q else K (a.put N undef) w) :
    wpAnyLast P md ops Q S ds (fuel + 1) l a w := by
  subst hN
  simp only [readyB, Bool.and_eq_true, beq_iff_eq] at hc
  obtain ⟨h1, h2⟩ := hc
  subst h2
  exact wpAnyLast_ready h1 (by simp) (AllReadyL.cons_last hi hd (fun K hK => h K hK) AllReadyL.nil)
theorem done_ {l : Array Bool} {a : Act} {w : World} {n : Nat} (hr : (Region.ready md ops l == []) = true) (h : Q .normal a w) : wpAnyLast P md ops Q S ds n l a w := wpAnyLast_done (by simpa using hr) h n
/-- The act written out. -/
theorem norm_ {fuel : Nat} {l : Array Bool} {a a' : Act} {w : World} (ha : a = a') (h : wpAnyLast P md ops Q S ds fuel l a' w) : wpAnyLast P md ops Q S ds fuel l a w := by
  subst ha
  exact h
/-- A call of a Go function, by its contract. -/
theorem call_ {oi : Oper} {N : Option Tmp} {a : Act} {w : World} {K : Act → World → Prop} (f : FuncId) (args : Array Value) (hw : Region.wanted oi (yielded ops a.tmps) = true) (hN : oi.dst = N) (hrun : (execOp a.eval oi).run P w = .ok (.enter f args) w)
    (h : Calls P f args w fun e w' => ∃ v, e = .returned v ∧ K (a.put N v) w') : if Region.wanted oi (yielded ops a.tmps) = true then Oper.wp P oi a w K Q else K (a.put N undef) w := by
  rw [if_pos hw]
  subst hN
  unfold Oper.wp
  rw [hrun, Oper.upon_enter]
  refine h.mono fun e w'' hh => ?_
  obtain ⟨v, rfl, hk⟩ := hh
  exact hk
theorem enters_ {f : FuncId} {fn : Func} (hf : P.funcs[f]? = some fn) (hname : (fn.name == "runtime.NumGoroutine") = false) (hb : fn.body.isSome = true) (args : Array Value) (w : World) : (callFunc f args).run P w = .ok (.enter f args) w := by
  have h1 : fn.name ≠ "runtime.NumGoroutine" := by simpa using hname
  obtain ⟨c, hc⟩ := Option.isSome_iff_exists.1 hb
  simp [callFunc, hf, h1, hc]
/-- The same, the operation's run shown here: 'goes_ A.func3 (by kernel_rfl) rfl #[..] (by rfl) rfl rfl (by rfl) ?_'. -/
theorem goes_ {oi : Oper} {N : Option Tmp} {a : Act} {w : World} {K : Act → World → Prop} {f : FuncId} {fn : Func} {as_ : Array Operand} {ts : Array TypeId} (hf : P.funcs[f]? = some fn) (hname : (fn.name == "runtime.NumGoroutine") = false) (hb : fn.body.isSome = true) (args : Array Value)
    (hw : Region.wanted oi (yielded ops a.tmps) = true) (hN : oi.dst = N) (hop : oi.op = .call { callee := .value (.func f), args := as_, argTypes := ts }) (hargs : as_.map a.eval = args)
    (h : Calls P f args w fun e w' => ∃ v, e = .returned v ∧ K (a.put N v) w') : if Region.wanted oi (yielded ops a.tmps) = true then Oper.wp P oi a w K Q else K (a.put N undef) w := by
  refine call_ f args hw hN ?_ h
  have he := enters_ hf hname hb args w
  unfold execOp
  simp [hop, resolve, Deferred.ofValue, invoke, Act.eval, hargs, he]
/-- A call in a plain region, as_ an arm of go_wp2_with ('hd' first: it fails at once at another operation). -/
theorem goesL_ {rest : List Oper} {oi : Oper} {a : Act} {w : World} (N : Option Tmp) (hd : oi.dst = N) (hg : oi.guard = none) {f : FuncId} {fn : Func} {as_ : Array Operand} {ts : Array TypeId} (hf : P.funcs[f]? = some fn) (hname : (fn.name == "runtime.NumGoroutine") = false) (hb : fn.body.isSome = true) (args : Array Value)
    (hop : oi.op = .call { callee := .value (.func f), args := as_, argTypes := ts }) (hargs : as_.map a.eval = args)
    (h : Calls P f args w fun e w' => ∃ v, e = .returned v ∧ wpList P ops Q rest (a.put N v) w') : wpList P ops Q (oi :: rest) a w := by
  refine wpList_plain hg fun K hK => ?_
  have he := enters_ hf hname hb args w
  have hrun : (execOp a.eval oi).run P w = .ok (.enter f args) w := by
    unfold execOp
    simp [hop, resolve, Deferred.ofValue, invoke, Act.eval, hargs, he]
  unfold Oper.wp
  rw [hrun, Oper.upon_enter]
  refine h.mono fun e w'' hh => ?_
  obtain ⟨v, rfl, hk⟩ := hh
  subst hd
  exact hK _ _ hk
/-- A store. -/
theorem skip_ {oi : Oper} {a : Act} {w w1 : World} {K : Act → World → Prop} (hw : Region.wanted oi (yielded ops a.tmps) = true) (hN : oi.dst = none) (hrun : (execOp a.eval oi).run P w = .ok .skip w1)
    (h : K a w1) : if Region.wanted oi (yielded ops a.tmps) = true then Oper.wp P oi a w K Q else K (a.put none undef) w := by
  rw [if_pos hw]
  unfold Oper.wp
  rw [hrun]
  show K (a.put oi.dst undef) w1
  rw [hN]
  exact h
theorem i64_w (n : Int) : IntKind.i64.wrap n = Go.RowKit.wrap64 n := by unfold Go.RowKit.wrap64; exact IntKind.wrap_i64 n
theorem i32_w (n : Int) : IntKind.i32.wrap n = Go.RowKit.wrap32 n := by unfold Go.RowKit.wrap32; exact IntKind.wrap_i32 n
end
end Go.Proofs.YtnhchnlgleokoaaDoorW.PrintLast
end
/-! WQPut -/
section
namespace Go.Proofs.YtnhchnlgleokoaaDoorW.PrintWords
open Go.RowKit
namespace Kd
section
variable {α : Type} {d : Kd α} {e base g o n cap : Nat} {ok okp : Nat → Prop} {w W : World} {v : Value} {xs : List α}
end
section
variable {α : Type} {enc : α → Value} {h1 : ∀ x, (enc x).oneCell' = true} {e base g o n cap : Nat} {ok : Nat → Prop} {W : World} {xs : List α}
end
end Kd
end Go.Proofs.YtnhchnlgleokoaaDoorW.PrintWords
end
/-! WApart -/
section
namespace Go.Proofs.YtnhchnlgleokoaaDoorW.PrintWords
open Go.RowKit
namespace Kd
/-- An element with its index: its blocks are those that f gives to it. -/
def tag {α : Type} (f : Nat → Nat) (d : Kd α) : Kd (α × Nat) where
  sz := d.sz
  E := d.E
  K := fun w x cs => d.K w x.1 cs
  M := fun w base ok x cs => d.M w base (fun k => ok k ∧ f k = x.2) x.1 cs
  K_len := fun h => d.K_len h
  K_one := fun h => d.K_one h
  K_below := fun hb h => d.K_below hb h
  K_of_M := fun h => d.K_of_M h
  M_mono := fun hok h => d.M_mono (fun k hk => ⟨hok k hk.1, hk.2⟩) h
  M_bound := fun h => d.M_mono (fun _ hk => ⟨⟨hk.1.1, hk.2⟩, hk.1.2⟩) (d.M_bound h)
  M_move := fun hm h => d.M_move (fun k hk => hm k hk.1) h
  M_lower := fun hb h => d.M_lower hb h
/-- The cells themselves. -/
def raw (sz : Nat) : Kd (List Value) where
  sz := sz
  E := []
  K := fun _ x cs => cs = x ∧ cs.length = sz ∧ ∀ u ∈ cs, u.oneCell' = true
  M := fun _ _ _ x cs => cs = x ∧ cs.length = sz ∧ ∀ u ∈ cs, u.oneCell' = true
  K_len := fun h => h.2.1
  K_one := fun h => h.2.2
  K_below := fun _ h => h
  K_of_M := fun h => h
  M_mono := fun _ h => h
  M_bound := fun h => h
  M_move := fun _ h => h
  M_lower := fun _ h => h
/-- A row of elements (type e) of the call's own, no two of which lead to one block. -/
def S {α : Type} (d : Kd α) (e : Nat) (w : World) (base : Nat) (ok : Nat → Prop) (v : Value) (xs : List α) : Prop := ∃ f, (tag f d).R e w base ok v xs.zipIdx
section
variable {α β : Type} {d : Kd α} {d' : Kd β} {e e' : Nat} {w w1 W : World} {base b : Nat} {ok ok' okv oku : Nat → Prop} {u v : Value} {xs : List α} {ys : List β}
theorem S_nil (d : Kd α) (e : Nat) (w : World) (base : Nat) (ok : Nat → Prop) : S d e w base ok (.slice none 0 0) [] := ⟨fun _ => 0, R_nil _ _ _ _ _⟩
end
section
variable {α β : Type} {d : Kd α} {d' : Kd β} {e e' g : Nat} {w w1 W : World} {base b : Nat} {ok ok' okv oku : Nat → Prop} {u v : Value} {xs : List α} {ys : List β}
end
section
variable {P : Program} {ops : Array Oper} {rest : List Oper} {o : Oper} {a : Act} {Q : Exit → Act → World → Prop} {Kc : Act → World → Prop} {α : Type}
end
/-- Element i is these cells; the others are d's. -/
def gap {α : Type} (f : Nat → Nat) (d : Kd α) (i : Nat) (c : List Value) : Kd (α × Nat) where
  sz := d.sz
  E := d.E
  K := fun w x cs => (x.2 = i → cs = c ∧ cs.length = d.sz ∧ ∀ u ∈ cs, u.oneCell' = true) ∧ (x.2 ≠ i → d.K w x.1 cs)
  M := fun w base ok x cs => (x.2 = i → cs = c ∧ cs.length = d.sz ∧ ∀ u ∈ cs, u.oneCell' = true) ∧ (x.2 ≠ i → d.M w base (fun k => ok k ∧ f k = x.2) x.1 cs)
  K_len := fun {w x cs} h => by
    by_cases hx : x.2 = i
    · exact (h.1 hx).2.1
    · exact d.K_len (h.2 hx)
  K_one := fun {w x cs} h => by
    by_cases hx : x.2 = i
    · exact (h.1 hx).2.2
    · exact d.K_one (h.2 hx)
  K_below := fun hb h => ⟨h.1, fun hx => d.K_below hb (h.2 hx)⟩
  K_of_M := fun h => ⟨h.1, fun hx => d.K_of_M (h.2 hx)⟩
  M_mono := fun hok h => ⟨h.1, fun hx => d.M_mono (fun k hk => ⟨hok k hk.1, hk.2⟩) (h.2 hx)⟩
  M_bound := fun h => ⟨h.1, fun hx => d.M_mono (fun _ hk => ⟨⟨hk.1.1, hk.2⟩, hk.1.2⟩) (d.M_bound (h.2 hx))⟩
  M_move := fun hm h => ⟨h.1, fun hx => d.M_move (fun k hk => hm k hk.1) (h.2 hx)⟩
  M_lower := fun hb h => ⟨h.1, fun hx => d.M_lower hb (h.2 hx)⟩
def H {α : Type} (d : Kd α) (e : Nat) (w : World) (base : Nat) (ok : Nat → Prop) (v : Value) (xs : List α) (i : Int) (oki : Nat → Prop) (c : List Value) : Prop :=
  (∀ k, oki k → ok k) ∧ ∃ f, (gap f d i.toNat c).R e w base (fun k => ok k ∧ ¬ oki k) v xs.zipIdx
section
variable {α β : Type} {d : Kd α} {e e' g n cap : Nat} {w w1 W : World} {base : Nat} {ok ok' oki okp : Nat → Prop} {u v : Value} {xs : List α} {i : Int} {c : List Value}
end
section
variable {P : Program} {ops : Array Oper} {rest : List Oper} {o : Oper} {a : Act} {Q : Exit → Act → World → Prop} {α : Type}
end
end Kd
end Go.Proofs.YtnhchnlgleokoaaDoorW.PrintWords
end
/-! WArr -/
section
namespace Go.Proofs.YtnhchnlgleokoaaDoorW.PrintWords
open Go.RowKit
namespace Kd
section
variable {α : Type} {n : Nat} {d : Kd α} {hs : 0 < d.sz} {w : World} {base : Nat} {ok : Nat → Prop} {xs : List α} {cs : List Value}
end
section
variable {α : Type} {n : Nat} {enc : α → Value} {h1 : ∀ x, (enc x).oneCell' = true} {hs : 0 < (scalar enc h1).sz} {w : World} {base : Nat} {ok : Nat → Prop} {xs : List α} {cs : List Value}
end
end Kd
end Go.Proofs.YtnhchnlgleokoaaDoorW.PrintWords
end
/-! WZeros -/
section
namespace Go.Proofs.YtnhchnlgleokoaaDoorW.PrintWords
open Go.RowKit
section
variable {P : Program}
end
namespace Kd
section
variable {P : Program} {ops : Array Oper} {rest : List Oper} {o : Oper} {a : Act} {Q : Exit → Act → World → Prop} {Kc : Act → World → Prop} {α : Type}
end
section
variable {α : Type} {d : Kd α} {e : Nat} {w : World} {base : Nat} {ok : Nat → Prop} {v : Value} {xs : List α}
end
section
variable {P : Program} {ops : Array Oper} {rest : List Oper} {o : Oper} {a : Act} {Q : Exit → Act → World → Prop} {Kc : Act → World → Prop} {α : Type}
end
end Kd
end Go.Proofs.YtnhchnlgleokoaaDoorW.PrintWords
end
/-! WFoot -/
section
namespace Go.Proofs.YtnhchnlgleokoaaDoorW.PrintWords
open Go.RowKit
namespace Kd
/-- What a kind reads lies in the blocks: nothing else of the world is looked at. -/
structure Heap {α : Type} (d : Kd α) : Prop where
  K : ∀ {w w1 : World} {x : α} {cs : List Value}, (∀ k, k < w.heap.size → w1.heap[k]? = w.heap[k]?) → d.K w x cs → d.K w1 x cs
theorem cell_heap {w w1 : World} (hb : ∀ k, k < w.heap.size → w1.heap[k]? = w.heap[k]?) {a : Addr} {v : Value} (h : w.cell? a = some v) : w1.cell? a = some v := by
  have := hb a.block (World.block_lt_of_cell? w a h)
  simpa [World.cell?, this] using h
theorem Heap.C {α : Type} {d : Kd α} (hd : Heap d) {w w1 : World} {A : Option Addr} {n : Nat} {xs : List α} (hb : ∀ k, k < w.heap.size → w1.heap[k]? = w.heap[k]?) (h : d.C w A n xs) : d.C w1 A n xs :=
  ⟨h.1, h.2.1, fun hn => by
    obtain ⟨ad, e, hc⟩ := h.2.2 hn
    refine ⟨ad, e, fun j p hj => ?_⟩
    obtain ⟨c, hs, hr, hcell⟩ := hc j p hj
    exact ⟨c, hs, hd.K hb hr, fun i u hu => cell_heap hb (hcell i u hu)⟩⟩
section
variable {α : Type} {d : Kd α} {e base g n c : Nat} {ok : Nat → Prop} {w w0 W : World} {A : Option Addr} {xs : List α}
end
end Kd
end Go.Proofs.YtnhchnlgleokoaaDoorW.PrintWords
end
/-! WKept -/
section
namespace Go.Proofs.YtnhchnlgleokoaaDoorW.PrintWords
open Go.RowKit
section
variable {w W W2 : World} {S S2 S' : Nat → Prop}
end
namespace Kd
section
variable {α : Type} {d : Kd α} {e base n c : Nat} {ok oki S S2 : Nat → Prop} {w w0 W W1 W2 : World} {v : Value} {A : Option Addr} {xs : List α} {i : Int} {cs : List Value}
end
end Kd
end Go.Proofs.YtnhchnlgleokoaaDoorW.PrintWords
end
/-! WShare -/
section
namespace Go.Proofs.YtnhchnlgleokoaaDoorW.PrintWords
open Go.RowKit
/-- P holds in W and in every world that has W's blocks of ok. -/
def Foot (P : World → Prop) (W : World) (ok : Nat → Prop) : Prop := ∀ W' : World, (∀ k, ok k → k < W.heap.size → W'.heap[k]? = W.heap[k]?) → P W'
theorem heap_lt {W W1 : World} {k : Nat} (h : W1.heap[k]? = W.heap[k]?) (hlt : k < W.heap.size) : k < W1.heap.size := by
  rw [Array.getElem?_eq_getElem hlt] at h
  exact (Array.getElem?_eq_some_iff.1 h).1
namespace Foot
variable {P Q : World → Prop} {W W1 : World} {ok ok' : Nat → Prop}
theorem now (h : Foot P W ok) : P W := h W (fun _ _ _ => rfl)
theorem mono (h : Foot P W ok) (hok : ∀ k, ok k → ok' k) : Foot P W ok' := fun W' hW => h W' (fun k hk hlt => hW k (hok k hk) hlt)
theorem bound (h : Foot P W ok) : Foot P W (fun k => ok k ∧ k < W.heap.size) := fun W' hW => h W' (fun k hk hlt => hW k ⟨hk, hlt⟩ hlt)
theorem step (h : Foot P W ok) (hm : ∀ k, ok k → k < W.heap.size → W1.heap[k]? = W.heap[k]?) : Foot P W1 ok := fun W' hW => h W' (fun k hk hlt => (hW k hk (heap_lt (hm k hk hlt) hlt)).trans (hm k hk hlt))
theorem imp (h : Foot P W ok) (hi : ∀ W', P W' → Q W') : Foot Q W ok := fun W' hW => hi W' (h W' hW)
/-- Moved, and still elder than what is new since W. -/
theorem old (h : Foot P W ok) (hb : Below W.heap.size W W1) : Foot P W1 (fun k => ok k ∧ k < W.heap.size) := (h.bound).step (fun k _ hlt => hb.block k hlt)
end Foot
namespace Kd
/-- A row that is only read: what it leads to lies in ok. -/
def F {α : Type} (d : Kd α) (W : World) (ok : Nat → Prop) (A : Option Addr) (n : Nat) (xs : List α) : Prop := Foot (fun W => d.C W A n xs) W ok
/-- An element's cells: what they lead to lies in ok. -/
def FK {α : Type} (d : Kd α) (W : World) (ok : Nat → Prop) (x : α) (c : List Value) : Prop := Foot (fun W => d.K W x c) W ok
section
variable {α β : Type} {d : Kd α} {e base n n' cc g N : Nat} {ok ok' okp S : Nat → Prop} {w w0 w1 W W1 : World} {A A' : Option Addr} {u v v1 : Value} {xs : List α} {xs' : List β} {d' : Kd β} {x : α} {c : List Value}
theorem F_nil (d : Kd α) (W : World) (ok : Nat → Prop) : F d W ok none ([] : List α).length [] := fun W' _ => C_nil d W'
theorem FK_of_M (h : d.M W base ok x c) : FK d W ok x c := fun _ hW => d.K_of_M (M_step h hW)
end
end Kd
end Go.Proofs.YtnhchnlgleokoaaDoorW.PrintWords
end
/-! WN -/
section
namespace Go.Proofs.YtnhchnlgleokoaaDoorW.PrintWords
open Go.RowKit
namespace Kd
/-- The cells one behind the other, element by element. -/
def chunks (sz : Nat) (n : Nat) (inner : List Value) : List (List Value) := (List.range n).map fun j => (inner.drop (j * sz)).take sz
theorem chunks_length (sz n : Nat) (inner : List Value) : (chunks sz n inner).length = n := by simp [chunks]
theorem chunks_at {sz n : Nat} {inner : List Value} {j : Nat} (hj : j < n) : (chunks sz n inner)[j]? = some ((inner.drop (j * sz)).take sz) := by simp [chunks, hj]
theorem chunks_get {sz n : Nat} {inner : List Value} {j : Nat} {c : List Value} (h : (chunks sz n inner)[j]? = some c) : c = (inner.drop (j * sz)).take sz := by
  have hj : j < n := by have := (List.getElem?_eq_some_iff.1 h).1; rwa [chunks_length] at this
  rw [chunks_at hj] at h
  injection h with h
  exact h.symm
theorem reps_raw {α : Type} {Rr : α → List Value → Prop} {sz : Nat} {xs : List α} {inner : List Value} (h : Reps Rr sz xs inner) (hR : ∀ x c, Rr x c → c.length = sz ∧ ∀ u ∈ c, u.oneCell' = true) : Reps (fun x cs => cs = x ∧ cs.length = sz ∧ ∀ u ∈ cs, u.oneCell' = true) sz (chunks sz xs.length inner) inner := by
  refine ⟨by rw [chunks_length]; exact h.1, fun j p hj => ?_⟩
  have hjl : j < xs.length := by have := (List.getElem?_eq_some_iff.1 hj).1; rwa [chunks_length] at this
  have hp := chunks_get hj
  exact ⟨hp.symm, hR _ _ (h.2 j _ (List.getElem?_eq_getElem hjl))⟩
section
variable {α : Type} {d : Kd α} {e base n cc g : Nat} {ok ok' okp S : Nat → Prop} {w w1 W W1 : World} {A : Option Addr} {u v v1 : Value} {xs : List α} {x : α} {c : List Value}
/-- A row of elements (type e) of the call's own; what the elements lead to is only read, and is not this row. -/
def N {α : Type} (d : Kd α) (e : Nat) (w : World) (base : Nat) (ok : Nat → Prop) (v : Value) (xs : List α) : Prop :=
  (∀ k, v.ownBlock = some k → ok k) ∧ ∃ rows : List (List Value), rows.length = xs.length ∧ (raw d.sz).R e w base (fun k => some k = v.ownBlock) v rows ∧ ∀ (j : Nat) (x : α) (c : List Value), xs[j]? = some x → rows[j]? = some c → FK d w (fun k => ok k ∧ some k ≠ v.ownBlock) x c
theorem R_N (h : d.R e w base ok v xs) : N d e w base ok v xs := by
  obtain ⟨h0, inner, ho, hr⟩ := h
  refine ⟨h0, chunks d.sz xs.length inner, chunks_length _ _ _, ⟨fun k hk => hk.symm, inner, by rw [chunks_length]; exact ho, reps_raw hr (fun x c hp => ⟨d.K_len (d.K_of_M hp), d.K_one (d.K_of_M hp)⟩)⟩, fun j x c hx hc => ?_⟩
  rw [chunks_get hc]
  exact FK_of_M (hr.2 j x hx)
theorem N_nil (d : Kd α) (e : Nat) (w : World) (base : Nat) (ok : Nat → Prop) : N d e w base ok (.slice none 0 0) [] := R_N (R_nil _ _ _ _ _)
end
end Kd
end Go.Proofs.YtnhchnlgleokoaaDoorW.PrintWords
end
/-! WNEv -/
section
namespace Go.Proofs.YtnhchnlgleokoaaDoorW.PrintWords
open Go.RowKit
namespace Kd
section
variable {α : Type} {d : Kd α} {e base n cap g : Nat} {ok ok' okp : Nat → Prop} {w w1 W : World} {v v1 : Value} {xs ys : List α}
end
section
variable {P : Program} {ops : Array Oper} {rest : List Oper} {o : Oper} {a : Act} {Q : Exit → Act → World → Prop} {Kc : Act → World → Prop} {α : Type}
end
end Kd
end Go.Proofs.YtnhchnlgleokoaaDoorW.PrintWords
end
/-! WMore -/
section
namespace Go.Proofs.YtnhchnlgleokoaaDoorW.PrintMore
open Go.RowKit Go.Proofs.YtnhchnlgleokoaaDoorW.PrintWords
namespace Kd
open Go.Proofs.YtnhchnlgleokoaaDoorW.PrintWords.Kd
end Kd
namespace Kd
open Go.Proofs.YtnhchnlgleokoaaDoorW.PrintWords.Kd
section
variable {α : Type} {d : Kd α} {e base g N : Nat} {ok : Nat → Prop} {W w1 : World} {u v : Value} {xs : List α}
end
end Kd
/-- 'max' and 'min' of two whole numbers. -/
theorem max2_int (k k' : IntKind) (x y : Int) : Builtin.max2 (.int k x) (.int k' y) = pure (.int k (if x < y then y else x)) := by simp only [Builtin.max2, gt_iff_lt]
theorem min2_int (k k' : IntKind) (x y : Int) : Builtin.min2 (.int k x) (.int k' y) = pure (.int k (if y < x then y else x)) := by simp only [Builtin.min2]
theorem max_two (ats : Array TypeId) (ty : TypeId) (a b : Value) : Builtin.max_ ats ty #[a, b] = (Builtin.max2 a b >>= fun s => pure s) := by simp only [Builtin.max_, List.foldlM_cons, List.foldlM_nil]
theorem min_two (ats : Array TypeId) (ty : TypeId) (a b : Value) : Builtin.min_ ats ty #[a, b] = (Builtin.min2 a b >>= fun s => pure s) := by simp only [Builtin.min_, List.foldlM_cons, List.foldlM_nil]
theorem max_three (ats : Array TypeId) (ty : TypeId) (a b c : Value) : Builtin.max_ ats ty #[a, b, c] = (Builtin.max2 a b >>= fun s => Builtin.max2 s c >>= fun s => pure s) := by simp only [Builtin.max_, List.foldlM_cons, List.foldlM_nil]
theorem min_three (ats : Array TypeId) (ty : TypeId) (a b c : Value) : Builtin.min_ ats ty #[a, b, c] = (Builtin.min2 a b >>= fun s => Builtin.min2 s c >>= fun s => pure s) := by simp only [Builtin.min_, List.foldlM_cons, List.foldlM_nil]
theorem max_four (ats : Array TypeId) (ty : TypeId) (a b c d : Value) : Builtin.max_ ats ty #[a, b, c, d] = (Builtin.max2 a b >>= fun s => Builtin.max2 s c >>= fun s => Builtin.max2 s d >>= fun s => pure s) := by simp only [Builtin.max_, List.foldlM_cons, List.foldlM_nil]
theorem min_four (ats : Array TypeId) (ty : TypeId) (a b c d : Value) : Builtin.min_ ats ty #[a, b, c, d] = (Builtin.min2 a b >>= fun s => Builtin.min2 s c >>= fun s => Builtin.min2 s d >>= fun s => pure s) := by simp only [Builtin.min_, List.foldlM_cons, List.foldlM_nil]
end Go.Proofs.YtnhchnlgleokoaaDoorW.PrintMore
namespace Go.Proofs.YtnhchnlgleokoaaDoorW.PrintWords
open Go.RowKit
section
variable {P : Program} {ops : Array Oper} {rest : List Oper} {o : Oper} {a : Act} {Q : Exit → Act → World → Prop} {W : World}
/-- The operation is a call of this function (a cheap look ahead of a dear step). -/
theorem gate_callee {f : FuncId} {as_ : Array Operand} {ts : Array TypeId} (_ho : o.op = .call { callee := .value (.func f), args := as_, argTypes := ts }) (h : wpList P ops Q (o :: rest) a W) : wpList P ops Q (o :: rest) a W := h
/-- The operation is a builtin over these places. -/
theorem gate_builtin {b : Builtin} {xs : Array Operand} {ts : Array TypeId} (_ho : o.op = .call { callee := .builtin b, args := xs, argTypes := ts }) (h : wpList P ops Q (o :: rest) a W) : wpList P ops Q (o :: rest) a W := h
end
/-- The greater of two whole numbers, as_ Go's max tells it. -/
def mx (a b : Int) : Int := if a < b then b else a
/-- A shift to the right: a count beyond the width leaves the sign. -/
def shr (k : IntKind) (x y : Int) : Int := x / 2 ^ min y.toNat k.bits
/-- It says x = x, and that is its use: 'rw [drewN_self w]' fails where the world was not drawn, and the row behind it is skipped. -/
theorem drewN_self (w : World) (n : Nat) : w.drewN n = w.drewN n := rfl
namespace Kd
section
variable {α : Type} {d : Kd α} {e base : Nat} {ok : Nat → Prop} {W w1 : World} {v : Value} {xs : List α}
end
section
variable {α : Type} {d : Kd α} {e base g n cap : Nat} {ok oki okp : Nat → Prop} {W : World} {xs : List α} {i : Int} {c : List Value}
end
section
variable {α : Type} {d : Kd α} {e base b b' g N : Nat} {ok ok1 : Nat → Prop} {W W2 w1 : World} {u v : Value} {xs ys : List α} {S : Nat → Prop}
end
end Kd
end Go.Proofs.YtnhchnlgleokoaaDoorW.PrintWords
namespace Go.Proofs.YtnhchnlgleokoaaDoorW.PrintWords
open Go.RowKit
namespace Kd
/-- A row that is only read, told by its value: its form, its length, what it leads to (in ok). e and base say nothing; they make it as_ the others are. -/
def V {α : Type} (d : Kd α) (_e : Nat) (W : World) (_base : Nat) (ok : Nat → Prop) (v : Value) (xs : List α) : Prop := ∃ A c, v = .slice A xs.length c ∧ xs.length ≤ c ∧ F d W ok A xs.length xs
section
variable {α β : Type} {d : Kd α} {e base base' n m c g N' lo hi : Nat} {ok ok' S : Nat → Prop} {w W w1 : World} {A : Option Addr} {ad : Addr} {u v v1 : Value} {xs : List α}
theorem V_nil (d : Kd α) (e : Nat) (W : World) (base : Nat) (ok : Nat → Prop) : V d e W base ok (.slice none 0 0) [] := ⟨none, 0, rfl, Nat.le_refl _, F_nil d W ok⟩
end
end Kd
end Go.Proofs.YtnhchnlgleokoaaDoorW.PrintWords
end
/-! C0 -/
section
namespace Go.Proofs.YtnhchnlgleokoaaDoor
open Go.RowKit Go.Proofs.YtnhchnlgleokoaaDoorW.PrintWords
def stp (x : Int) : Int := Go.bits .xor .u32 (x / 2) (Go.bits .and .u32 3988292384 ((-(Go.bits .and .u32 x 1)) % 4294967296))
def stps : Nat → Int → Int
  | 0, x => x
  | n + 1, x => stp (stps n x)
theorem z91 : Tryd.zeroCells121.size = 256 := by kernel_rfl
def Tab (w wr : World) (k : Nat) : Prop := ∃ cs : Array Value, wr.heap[w.heap.size]? = some (.cells cs 121 (0, 0)) ∧ cs.size = 256 ∧ (∀ j, j < k → cs[j]? = some (.int .u32 (stps 8 j))) ∧ Below w.heap.size w wr
theorem Tab.facts {w wr : World} {k : Nat} (h : Tab w wr k) (hk : k < 256) : (∃ v, wr.cell? ⟨w.heap.size, k, none⟩ = some v) ∧ wr.frozen? ⟨w.heap.size, k, none⟩ = false := by
  obtain ⟨cs, hb, hs, _, _⟩ := h
  refine ⟨⟨cs[k]'(by omega), ?_⟩, blk_frozen hb k⟩
  rw [blk_cell hb k]
  exact Array.getElem?_eq_getElem (by omega)
theorem Tab.step {w wr : World} {k : Nat} (h : Tab w wr k) (hk : k < 256) : Tab w (wr.setCell ⟨w.heap.size, k, none⟩ (.int .u32 (stps 8 k))) (k + 1) := by
  obtain ⟨cs, hb, hs, hc, hw⟩ := h
  refine ⟨_, blk_set hb k _, by simpa using hs, fun j hj => ?_, hw.setCell (Nat.le_refl _) _⟩
  rw [Array.getElem?_setIfInBounds]
  by_cases e : k = j
  · subst e
    simp
    omega
  · rw [if_neg e]
    exact hc j (by omega)
set_option maxRecDepth 100000 in
set_option maxHeartbeats 1000000 in
theorem table_calls (w : World) : Calls Tryd.prog 96 #[] w fun e w' => e = .returned (.pointer (some ⟨w.heap.size, 0, none⟩)) ∧ Tab w w' 256 := by
  have H0 : Tab w (w.alloc (.cells Tryd.zeroCells121 121)) 0 := ⟨_, blk_new w _, z91, fun j h => by omega, below_alloc (Below.refl _ _) _⟩
  have H := Lib.hid H0
  clear H0
  go_enter Tryd.func96, Tryd.ntmps96
  go_wp2
  go_loopw [4] (fun i wr => ∃ k : Nat, k ≤ 256 ∧ i = .int .i64 k ∧ Hid (Tab w wr k)) (fun i _ => 256 - (intOf i).toNat)
  case atStart => exact ⟨0, by omega, rfl, H⟩
  case round =>
    obtain ⟨k, hk, rfl, hT⟩ := hrel
    clear H
    by_cases hlt : k < 256
    · obtain ⟨⟨v, hv⟩, hf⟩ := hT.out.facts hlt
      have hT2 := Lib.hid (hT.out.step hlt)
      go_wp2
      go_loop [3, 9] (fun x j => ∃ m : Nat, m ≤ 8 ∧ j = .int .i64 m ∧ x = .int .u32 (stps m k)) (fun _ j => 8 - (intOf j).toNat)
      case atStart => exact ⟨0, by omega, rfl, rfl⟩
      case round =>
        obtain ⟨m, hm, rfl, rfl⟩ := hrel
        by_cases hlt2 : m < 8
        · go_wp2
          go_round
          case rel => exact ⟨m + 1, by omega, by go_num, rfl⟩
          case measure => simp [intOf]; omega
        · obtain rfl : m = 8 := by omega
          go_wp2
          go_roundw
          case rel => exact ⟨k + 1, by omega, by go_num, hT2⟩
          case measure => simp [intOf]; omega
    · obtain rfl : k = 256 := by omega
      go_wp2
      go_ret
      exact ⟨rfl, hT.out⟩
theorem u8_range (x y : Int) : 0 ≤ Go.bits .xor .u8 x y ∧ Go.bits .xor .u8 x y < 256 := by
  unfold Go.bits
  constructor
  · exact Int.emod_nonneg _ (by decide)
  · exact Int.emod_lt_of_pos _ (by decide)
/-- what the rows of a table make of bytes, from a start -/
def crcL : Int → List UInt8 → Int
  | y, [] => y
  | y, b :: l => crcL (Go.bits .xor .u32 (stps 8 (Go.bits .xor .u8 (y % 256) (b.toNat : Int))) (y / 256)) l
theorem crcL_app : ∀ (l m : List UInt8) (y : Int), crcL y (l ++ m) = crcL (crcL y l) m
  | [], _, _ => rfl
  | b :: l, m, y => by simp only [List.cons_append, crcL]; exact crcL_app l m _
theorem crcL_take (s : ByteArray) (k : Nat) (h : k < s.size) (y : Int) : crcL y (s.data.toList.take (k + 1)) = Go.bits .xor .u32 (stps 8 (Go.bits .xor .u8 (crcL y (s.data.toList.take k) % 256) (bt s k))) (crcL y (s.data.toList.take k) / 256) := by
  have e : s.data.toList.take (k + 1) = s.data.toList.take k ++ [s[k]'h] := by
    rw [List.take_add_one]
    congr 1
    rw [List.getElem?_eq_getElem (by simpa using h)]
    rfl
  rw [e, crcL_app]
  have hb : ((s[k]'h).toNat : Int) = bt s k := bt_at s k h
  simp only [crcL]
  rw [hb]
def crc_More.f (a0 : Int) (a1 : ByteArray) : Option Int := if a1.size ≤ 9223372036854775807 then some (Go.bits .xor .u32 IntKind.u32.max (crcL (Go.bits .xor .u32 IntKind.u32.max a0) a1.data.toList)) else none
set_option maxRecDepth 100000 in
set_option maxHeartbeats 1000000 in
theorem more_calls (a0 : Int) (s : ByteArray) (hs : s.size ≤ 9223372036854775807) (w : World) : Calls Tryd.prog 85 #[.int .u32 a0, .string s] w fun e w' => e = .returned (.int .u32 (Go.bits .xor .u32 IntKind.u32.max (crcL (Go.bits .xor .u32 IntKind.u32.max a0) s.data.toList))) ∧ Below w.heap.size w w' := by
  go_enter Tryd.func85, Tryd.ntmps85
  go_wp2_with (go_at_call 96; refine (table_calls _).mono ?_; rintro e w1 ⟨rfl, hT⟩)
  have HT := Lib.hid hT
  clear hT
  go_loopw [6, 13] (fun x i wr => ∃ (k : Nat) (y : Int), k ≤ s.size ∧ i = .int .i64 k ∧ x = .int .u32 y ∧ Hid (y = crcL (Go.bits .xor .u32 IntKind.u32.max a0) (s.data.toList.take k)) ∧ Hid (Tab w wr 256)) (fun _ i _ => s.size - (intOf i).toNat)
  case atStart => exact ⟨0, _, by omega, rfl, rfl, Lib.hid rfl, HT⟩
  case round =>
    obtain ⟨k, y, hk, rfl, rfl, hy, hT⟩ := hrel
    clear HT
    by_cases hlt : k < s.size
    · have hx : ∀ h : k < s.size, ((s[k]'h).toNat : Int) = bt s k := fun h => bt_at s k h
      have hr := u8_range (y % 256) (bt s k)
      obtain ⟨q, hq⟩ : ∃ q : Nat, Go.bits .xor .u8 (y % 256) (bt s k) = (q : Int) := ⟨(Go.bits .xor .u8 (y % 256) (bt s k)).toNat, by omega⟩
      have hq2 : q < 256 := by omega
      have hc : wr.cell? ⟨w.heap.size, q, none⟩ = some (.int .u32 (stps 8 q)) := by
        obtain ⟨cs, hb, hs, hc, _⟩ := hT.out
        rw [blk_cell hb q]
        exact hc q hq2
      have hy2 := crcL_take s k hlt (Go.bits .xor .u32 IntKind.u32.max a0)
      rw [← hy.out, hq] at hy2
      have HY := Lib.hid hy2
      clear hr hy2
      go_wp2
      go_quiet (fail)
      go_wp2
      go_roundw
      case rel =>
        refine ⟨k + 1, _, by omega, by go_num, rfl, Lib.hid HY.out.symm, ?_⟩
        obtain ⟨cs, hb, hs, hc, hw⟩ := hT.out
        exact Lib.hid ⟨cs, by first | exact blk_drewN hb _ | exact hb, hs, hc, by first | exact pw_below_drewN hw _ | exact hw⟩
      case measure => simp [intOf]; omega
    · go_wp2
      go_ret
      obtain rfl : k = s.size := by omega
      obtain ⟨cs, hb, hs, hc, hw⟩ := hT.out
      have hz : y = crcL (Go.bits .xor .u32 IntKind.u32.max a0) s.data.toList := by
        rw [hy.out, List.take_of_length_le (by simp)]
      rw [← hz]
      exact ⟨rfl, hw⟩
theorem crc_More.calls (a0 : Int) (a1 : ByteArray) (r : Int) (w : World) (h : crc_More.f a0 a1 = some r) :
    Calls Tryd.prog 85 #[.int .u32 a0, .string a1] w fun e w' => e = .returned (.int .u32 r) ∧ Below w.heap.size w w' := by
  unfold crc_More.f at h
  by_cases c : a1.size ≤ 9223372036854775807
  · rw [if_pos c] at h
    obtain rfl := Option.some.inj h
    exact more_calls a0 a1 c w
  · rw [if_neg c] at h
    cases h
end Go.Proofs.YtnhchnlgleokoaaDoor
end
/-! RGiven -/
section
namespace Go.Proofs.YtnhchnlgleokoaaDoor
open Go.RowKit Go.Shelf Go.Proofs.YtnhchnlgleokoaaDoorW.PrintWords
def strings_IndexByte.f (a0 : ByteArray) (a1 : Int) : Option Int := some (Lib.indexByte a0.data.toList a1.toNat.toUInt8)
theorem strings_IndexByte.calls (a0 : ByteArray) (a1 : Int) (r : Int) (w : World) (h : strings_IndexByte.f a0 a1 = some r) :
    Calls Tryd.prog 69 #[.string a0, .int .u8 a1] w fun e w' => e = .returned (.int .i64 r) ∧ Drawn0 w w' := by
  obtain rfl := Option.some.inj h
  refine (Any.strings_IndexByte Tryd.lays137 a0 a1 w).mono ?_
  rintro e w' ⟨rfl, rfl⟩
  exact ⟨rfl, Drawn0.refl _⟩
def trimOk (a0 a1 : ByteArray) : Prop := a0.size ≤ 9223372036854775807 ∧ a1.size < 4294967281 ∧ a1.data.toList.all (fun b => decide (b.toNat < 128)) = true
instance (a0 a1 : ByteArray) : Decidable (trimOk a0 a1) := by unfold trimOk; infer_instance
def strings_Trim.f (a0 a1 : ByteArray) : Option ByteArray := if trimOk a0 a1 then some ⟨(Lib.trimS a0.data.toList a1.data.toList).toArray⟩ else none
theorem strings_Trim.calls (a0 a1 : ByteArray) (r : ByteArray) (w : World) (h : strings_Trim.f a0 a1 = some r) :
    Calls Tryd.prog 54 #[.string a0, .string a1] w fun e w' => e = .returned (.string r) ∧ Below w.heap.size w w' := by
  unfold strings_Trim.f at h
  by_cases c : trimOk a0 a1
  · rw [if_pos c] at h
    obtain rfl := Option.some.inj h
    refine (Any.strings_Trim_laid Tryd.lays160 (by kernel_rfl) a0 a1 w c.1 c.2.1 ?_).mono ?_
    · intro j b hb
      have hm := List.mem_of_getElem? hb
      have := List.all_eq_true.1 c.2.2 b hm
      simpa using this
    · rintro e w' ⟨rfl, hw⟩
      exact ⟨rfl, hw⟩
  · rw [if_neg c] at h
    cases h
end Go.Proofs.YtnhchnlgleokoaaDoor
end
/-! WTab -/
section
namespace Go.Proofs.YtnhchnlgleokoaaDoorW.PrintLast
open Go.Proofs.YtnhchnlgleokoaaDoorW.PrintWords (Aside0)
def needsOf (md : Region.Mode) (o : Oper) : List Nat := (o.after.toList.filter (fun e => Region.binds md e)).map (fun e => e.on)
def clashOf (md : Region.Mode) (ops : Array Oper) (i : Nat) (oi : Oper) : List Nat := (List.range ops.size).filter fun j => !(j == i) && match ops[j]? with
  | some oj => !(oj.after.any (fun e => Region.binds md e && e.on == i) || oi.apart ops oj)
  | none => false
/-- No select in it; for each operation: what must have come up before it, and what may not come up behind it if it is taken first. -/
def rtab (md : Region.Mode) (ops : Array Oper) : Bool × List (List Nat × List Nat) := (Region.noSelect ops, (List.range ops.size).map fun i => match ops[i]? with
  | some o => (needsOf md o, clashOf md ops i o)
  | none => ([], []))
def readyAt (T : List (List Nat × List Nat)) (l : List Bool) (i : Nat) : Bool := !l.getD i true && match T[i]? with
  | some r => r.1.all (fun j => l.getD j false)
  | none => false
def readyT (T : List (List Nat × List Nat)) (l : List Bool) : List Nat := (List.range T.length).filter (readyAt T l)
def freeT (T : List (List Nat × List Nat)) (l : List Bool) (i : Nat) : Bool := match T[i]? with
  | some r => r.2.all (fun j => l.getD j true)
  | none => false
section
variable {md : Region.Mode} {ops : Array Oper} {T : Bool × List (List Nat × List Nat)} {l l' li lj lk : Array Bool} {ds : List Nat} {i j k : Nat}
theorem gd (l : Array Bool) (j : Nat) (b : Bool) : l.getD j b = l.toList.getD j b := by simp [Array.getD_eq_getD_getElem?, List.getD_eq_getElem?_getD]
theorem needs_all (o : Oper) (p : Nat → Bool) : o.after.all (fun e => !Region.binds md e || p e.on) = (needsOf md o).all p := by
  unfold needsOf
  rw [← Array.all_toList]
  induction o.after.toList with
  | nil => rfl
  | cons e r ih =>
    rw [List.all_cons, ih, List.filter_cons]
    cases h : Region.binds md e <;> simp
theorem rtab_length : (rtab md ops).2.length = ops.size := by simp [rtab]
theorem rtab_some {o : Oper} (h : ops[i]? = some o) : (rtab md ops).2[i]? = some (needsOf md o, clashOf md ops i o) := by
  have hi := (Array.getElem?_eq_some_iff.1 h).1
  unfold rtab
  rw [List.getElem?_map, List.getElem?_range hi, Option.map_some, h]
theorem rtab_none (h : ops[i]? = none) : (rtab md ops).2[i]? = none := by
  have hi : ops.size ≤ i := Array.getElem?_eq_none_iff.1 h
  exact List.getElem?_eq_none (by rw [rtab_length]; exact hi)
theorem readyAt_eq : readyAt (rtab md ops).2 l.toList i = (!l.getD i true && ((ops[i]?).map (·.after.all fun e => !Region.binds md e || l.getD e.on false)).getD false) := by
  unfold readyAt
  rw [gd]
  cases h : ops[i]? with
  | none => rw [rtab_none h]; rfl
  | some o =>
    rw [rtab_some h]
    simp only [Option.map_some, Option.getD_some]
    rw [← needs_all]
    simp only [gd]
theorem ready_eq : Region.ready md ops l = readyT (rtab md ops).2 l.toList := by
  unfold Region.ready readyT
  rw [rtab_length]
  refine List.filter_congr (fun i _ => ?_)
  rw [readyAt_eq]
theorem free_eq : Region.free md ops l i = freeT (rtab md ops).2 l.toList i := by
  unfold Region.free freeT
  cases h : ops[i]? with
  | none => rw [rtab_none h]
  | some oi =>
    rw [rtab_some h]
    simp only [clashOf]
    rw [List.all_filter]
    congr 1
    funext j
    rw [gd]
    cases hj : ops[j]? with
    | none => cases (j == i) <;> cases (l.toList.getD j true) <;> simp
    | some oj =>
      cases (j == i) <;> cases (l.toList.getD j true) <;> cases (oj.after.any (fun e => Region.binds md e && e.on == i) || oi.apart ops oj) <;> simp_all
theorem readyAt_mem (h : readyAt T.2 l.toList i = true) (hT : rtab md ops = T) : (Region.ready md ops l).contains i = true := by
  subst hT
  rw [ready_eq]
  unfold readyT
  rw [List.contains_iff_mem, List.mem_filter, List.mem_range]
  refine ⟨?_, h⟩
  unfold readyAt at h
  rw [Bool.and_eq_true] at h
  cases hq : (rtab md ops).2[i]? with
  | none => rw [hq] at h; simp at h
  | some r => exact (List.getElem?_eq_some_iff.1 hq).1
theorem set_of (h : (l.toList.set i true == l'.toList) = true) : (l.setIfInBounds i true == l') = true := by
  rw [beq_iff_eq] at h ⊢
  apply Array.ext'
  rw [Array.toList_setIfInBounds]
  exact h
def anyT (T : Bool × List (List Nat × List Nat)) (l l' : List Bool) (i : Nat) : Bool := T.1 && freeT T.2 l i && readyAt T.2 l i && (l.set i true == l')
/-- pure_'s condition out of the table. -/
theorem any_of (hT : rtab md ops = T) (h : anyT T l.toList l'.toList i = true) : anyB md ops l l' i = true := by
  simp only [anyT, Bool.and_eq_true] at h
  obtain ⟨⟨⟨h1, h2⟩, h3⟩, h4⟩ := h
  have h5 := readyAt_mem h3 hT
  have h6 := set_of h4
  subst hT
  simp only [anyB, Bool.and_eq_true]
  exact ⟨⟨⟨h1, by rw [free_eq]; exact h2⟩, h5⟩, h6⟩
/-- one_'s and last_'s. -/
theorem one_of (hT : rtab md ops = T) (h : (readyT T.2 l.toList == [i] && l.toList.set i true == l'.toList) = true) : readyB md ops l l' i = true := by
  simp only [Bool.and_eq_true] at h
  obtain ⟨h1, h2⟩ := h
  subst hT
  simp only [readyB, Bool.and_eq_true]
  exact ⟨by rw [ready_eq]; exact h1, set_of h2⟩
/-- done_'s. -/
theorem done_of (hT : rtab md ops = T) (h : (readyT T.2 l.toList == []) = true) : (Region.ready md ops l == []) = true := by
  subst hT
  rw [ready_eq]
  exact h
/-- What d waits for, as_ bits: told in the table (B), checked in one pass: each bit is a need of d, or a bit of an earlier need's. -/
def upM (B : List Nat) (d : Nat) : List Nat → Nat
  | [] => 0
  | n :: r => (2 ^ n ||| (if n < d then B.getD n 0 else 0)) ||| upM B d r
def waitsOk (T : List (List Nat × List Nat)) (B : List Nat) : Bool := (List.range T.length).all fun d => match T[d]? with
  | some r => (B.getD d 0 ||| upM B d r.1) == upM B d r.1
  | none => false
theorem with_tabW {P : Program} {Q : Exit → Act → World → Prop} {S : World → Prop} {n : Nat} {a : Act} {w : World} {B : List Nat} (hT : rtab md ops = T) (hB : waitsOk T.2 B = true) (h : Aside0 (rtab md ops = T) → Aside0 (waitsOk T.2 B = true) → wpAnyLast P md ops Q S ds n l a w) : wpAnyLast P md ops Q S ds n l a w := h ⟨hT⟩ ⟨hB⟩
end
/-- The operations of a region, by its number. -/
def opsIn : Code → Nat → Option (Array Oper)
  | .region id ops _, k => if id == k then some ops else none
  | .seq a b, k => match opsIn a k with
    | some o => some o
    | none => opsIn b k
  | .cond _ a b, k => match opsIn a k with
    | some o => some o
    | none => opsIn b k
  | .block _ c, k => opsIn c k
  | .loop c, k => opsIn c k
  | .scope c, k => opsIn c k
  | .rangeFunc _ _ a b, k => match opsIn a k with
    | some o => some o
    | none => opsIn b k
  | _, _ => none
def opsOf (f : Func) (k : Nat) : Array Oper := ((f.body.bind fun c => opsIn c k)).getD #[]
end Go.Proofs.YtnhchnlgleokoaaDoorW.PrintLast
end
/-! WFour -/
section
namespace Go.Proofs.YtnhchnlgleokoaaDoorW.PrintLast
section
variable {P : Program} {ops : Array Oper} {Q : Exit → Act → World → Prop} {md : Region.Mode} {S : World → Prop} {ds : List Nat} {T : Bool × List (List Nat × List Nat)}
end
end Go.Proofs.YtnhchnlgleokoaaDoorW.PrintLast
end
/-! WFootNe -/
section
namespace Go.Proofs.YtnhchnlgleokoaaDoorW.PrintWords
open Go.RowKit
namespace Kd
section
variable {α : Type} {d : Kd α} {W : World} {g n : Nat} {S ok : Nat → Prop} {A : Option Addr} {ad : Addr} {xs : List α}
end
end Kd
end Go.Proofs.YtnhchnlgleokoaaDoorW.PrintWords
end
/-! WAt -/
section
namespace Go.Proofs.YtnhchnlgleokoaaDoorW.PrintWords
open Go.RowKit
section
variable {w w' u : World} {m B g : Nat} {o : Obj} {row : Option Nat} {S : Nat → Prop} {a : Addr} {v : Value}
theorem below_at (hq : w.drewN m = w') (h : Below B u w) : Below B u w' := by subst hq; exact pw_below_drewN h m
end
namespace Kd
section
variable {α : Type} {d : Kd α} {e base n m : Nat} {ok : Nat → Prop} {w w' : World} {v : Value} {A : Option Addr} {xs : List α}
theorem R_at (hq : w.drewN m = w') (h : d.R e w base ok v xs) : d.R e w' base ok v xs := by subst hq; exact R_drewN h m
end
end Kd
end Go.Proofs.YtnhchnlgleokoaaDoorW.PrintWords
end
/-! WRepsOne -/
section
namespace Go.Proofs.YtnhchnlgleokoaaDoorW.PrintWords
/-- One cell an element. -/
theorem Reps.one {α : Type} {R : α → List Value → Prop} {ps : List α} {cs : List Value} {p : α} {v : Value} (hp : R p [v]) (h : Reps R 1 ps cs) : Reps R 1 (p :: ps) (v :: cs) := by
  refine ⟨by simp [h.1], fun j q hq => ?_⟩
  cases j with
  | zero =>
    simp only [List.getElem?_cons_zero, Option.some.injEq] at hq
    subst hq
    simpa using hp
  | succ j =>
    simp only [List.getElem?_cons_succ] at hq
    have h1 := h.2 j q hq
    simpa [Nat.mul_one] using h1
/-- More cells an element: told apart by the cells' list. -/
theorem Reps.front {α : Type} {R : α → List Value → Prop} {size : Nat} {ps : List α} {cs c all : List Value} {p : α} (hp : R p c) (hc : c.length = size) (h : Reps R size ps cs) (ha : c ++ cs = all) : Reps R size (p :: ps) all := by
  subst ha
  refine ⟨by rw [List.length_append, hc, h.1, List.length_cons, Nat.succ_mul, Nat.add_comm], fun j q hq => ?_⟩
  cases j with
  | zero =>
    simp only [List.getElem?_cons_zero, Option.some.injEq] at hq
    subst hq
    rw [Nat.zero_mul, List.drop_zero, List.take_append_of_le_length (by omega), List.take_of_length_le (by omega)]
    exact hp
  | succ j =>
    simp only [List.getElem?_cons_succ] at hq
    have h1 := h.2 j q hq
    rw [Nat.succ_mul, List.drop_append, List.drop_of_length_le (by rw [hc]; exact Nat.le_add_left _ _), List.nil_append, hc, Nat.add_sub_cancel]
    exact h1
theorem Reps.c2 {α : Type} {R : α → List Value → Prop} {ps : List α} {cs : List Value} {p : α} {va vb : Value} (hp : R p [va, vb]) (h : Reps R 2 ps cs) : Reps R 2 (p :: ps) (va :: vb :: cs) := Reps.front hp rfl h rfl
theorem Reps.c3 {α : Type} {R : α → List Value → Prop} {ps : List α} {cs : List Value} {p : α} {va vb vc : Value} (hp : R p [va, vb, vc]) (h : Reps R 3 ps cs) : Reps R 3 (p :: ps) (va :: vb :: vc :: cs) := Reps.front hp rfl h rfl
theorem Reps.c4 {α : Type} {R : α → List Value → Prop} {ps : List α} {cs : List Value} {p : α} {va vb vc vd : Value} (hp : R p [va, vb, vc, vd]) (h : Reps R 4 ps cs) : Reps R 4 (p :: ps) (va :: vb :: vc :: vd :: cs) := Reps.front hp rfl h rfl
theorem Reps.c5 {α : Type} {R : α → List Value → Prop} {ps : List α} {cs : List Value} {p : α} {va vb vc vd ve : Value} (hp : R p [va, vb, vc, vd, ve]) (h : Reps R 5 ps cs) : Reps R 5 (p :: ps) (va :: vb :: vc :: vd :: ve :: cs) := Reps.front hp rfl h rfl
theorem Reps.c6 {α : Type} {R : α → List Value → Prop} {ps : List α} {cs : List Value} {p : α} {va vb vc vd ve vf : Value} (hp : R p [va, vb, vc, vd, ve, vf]) (h : Reps R 6 ps cs) : Reps R 6 (p :: ps) (va :: vb :: vc :: vd :: ve :: vf :: cs) := Reps.front hp rfl h rfl
theorem Reps.c7 {α : Type} {R : α → List Value → Prop} {ps : List α} {cs : List Value} {p : α} {va vb vc vd ve vf vg : Value} (hp : R p [va, vb, vc, vd, ve, vf, vg]) (h : Reps R 7 ps cs) : Reps R 7 (p :: ps) (va :: vb :: vc :: vd :: ve :: vf :: vg :: cs) := Reps.front hp rfl h rfl
theorem Reps.c8 {α : Type} {R : α → List Value → Prop} {ps : List α} {cs : List Value} {p : α} {va vb vc vd ve vf vg vh : Value} (hp : R p [va, vb, vc, vd, ve, vf, vg, vh]) (h : Reps R 8 ps cs) : Reps R 8 (p :: ps) (va :: vb :: vc :: vd :: ve :: vf :: vg :: vh :: cs) := Reps.front hp rfl h rfl
theorem Reps.c9 {α : Type} {R : α → List Value → Prop} {ps : List α} {cs : List Value} {p : α} {va vb vc vd ve vf vg vh vi : Value} (hp : R p [va, vb, vc, vd, ve, vf, vg, vh, vi]) (h : Reps R 9 ps cs) : Reps R 9 (p :: ps) (va :: vb :: vc :: vd :: ve :: vf :: vg :: vh :: vi :: cs) := Reps.front hp rfl h rfl
theorem Reps.c10 {α : Type} {R : α → List Value → Prop} {ps : List α} {cs : List Value} {p : α} {va vb vc vd ve vf vg vh vi vj : Value} (hp : R p [va, vb, vc, vd, ve, vf, vg, vh, vi, vj]) (h : Reps R 10 ps cs) : Reps R 10 (p :: ps) (va :: vb :: vc :: vd :: ve :: vf :: vg :: vh :: vi :: vj :: cs) := Reps.front hp rfl h rfl
end Go.Proofs.YtnhchnlgleokoaaDoorW.PrintWords
end
/-! WInv -/
section
namespace Go.Proofs.YtnhchnlgleokoaaDoorW.PrintLast
/-- Number i is listed too. -/
def up (b : Nat → Bool) (i : Nat) : Nat → Bool := fun j => if j = i then true else b j
section
variable {P : Program} {ops : Array Oper} {Q : Exit → Act → World → Prop} {md : Region.Mode} {T : Bool × List (List Nat × List Nat)} {B : List Nat} {O : List Nat} {b : Nat → Bool} {i j n : Nat}
end
end Go.Proofs.YtnhchnlgleokoaaDoorW.PrintLast
end
/-! WInvWords -/
section
namespace Go.Proofs.YtnhchnlgleokoaaDoorW.PrintWords
open Go.RowKit
end Go.Proofs.YtnhchnlgleokoaaDoorW.PrintWords
namespace Go.Proofs.YtnhchnlgleokoaaDoorW.PrintLast
section
variable {ops : Array Oper} {a : Act} {o og : Oper} {g : Nat} {t : Tmp} {u : Bool}
end
end Go.Proofs.YtnhchnlgleokoaaDoorW.PrintLast
end
/-! WGuard -/
section
namespace Go.Proofs.YtnhchnlgleokoaaDoorW.PrintWords
open Go.RowKit
section
variable {P : Program} {ops : Array Oper} {rest : List Oper} {o : Oper} {a : Act} {Q : Exit → Act → World → Prop} {W : World}
end
end Go.Proofs.YtnhchnlgleokoaaDoorW.PrintWords
end
/-! Px0 -/
section
namespace Go.Proofs.YtnhchnlgleokoaaDoor.P
open Go.RowKit Go.Proofs.YtnhchnlgleokoaaDoorW.PrintWords Go.Proofs.YtnhchnlgleokoaaDoorW.PrintLast Go.Proofs.YtnhchnlgleokoaaDoorW.PrintMore
attribute [local go_sem] max2_int min2_int max_two min_two max_three min_three max_four min_four   -- for this text's walks alone
set_option linter.unusedVariables false
set_option linter.unusedSimpArgs false
def errW : Option Int → Value
  | none => .nilIface
  | some c => .iface 0 (.int .i64 c)
theorem errW_none : errW none = .nilIface := rfl
theorem errW_some (c : Int) : errW (some c) = .iface 0 (.int .i64 c) := rfl
theorem info5 : (Tryd.prog.info? 5).map (fun i => (i.zero, i.size, i.bytes)) = some (some (.int .u8 0), 1, 1) := by kernel_rfl
end Go.Proofs.YtnhchnlgleokoaaDoor.P
end
/-! Px3 -/
section
namespace Go.Proofs.YtnhchnlgleokoaaDoor.P
open Go.RowKit Go.Proofs.YtnhchnlgleokoaaDoorW.PrintWords Go.Proofs.YtnhchnlgleokoaaDoorW.PrintLast Go.Proofs.YtnhchnlgleokoaaDoorW.PrintMore
attribute [local go_sem] max2_int min2_int max_two min_two max_three min_three max_four min_four   -- for this text's walks alone
set_option linter.unusedVariables false
set_option linter.unusedSimpArgs false
def hexa_Short.j0 : Nat → ByteArray → Bool → Option (Int)
  | 0, _, _ => none
  | k + 1, x0, x3 => if x3 = true then (some 1) else ((strings_Trim.f x0 (⟨#[48, 49, 50, 51, 52, 53, 54, 55, 56, 57, 97, 98, 99, 100, 101, 102]⟩ : ByteArray)).bind fun t114 => (if t114.toList = ([] : List UInt8) then (some 0) else (some 3)))
def hexa_Short.f (k : Nat) (a0 : ByteArray) : Option (Int) := if (a0.size : Int) < 4 then (hexa_Short.j0 k a0 true) else (hexa_Short.j0 k a0 (decide ((a0.size : Int) > 64)))
theorem hexa_Short.mono_l : ∀ k, (∀ y0 y1, LeO (hexa_Short.j0 k y0 y1) (hexa_Short.j0 (k + 1) y0 y1))
  | 0 => fun _ _ r h => by simp [hexa_Short.j0] at h
  | k + 1 => by
    have ih0 := hexa_Short.mono_l k
    · intro y0 y1
      unfold hexa_Short.j0
      repeat' first
      | (with_reducible exact ih0 _ _)
      | (with_reducible exact LeO.refl _)
      | (with_reducible exact LeO.none _)
      | (with_reducible refine LeO.ite ?_ ?_)
      | (with_reducible refine LeO.bind ?_ (fun _ => ?_))
      | exact ih0 _ _
      | exact LeO.none _
      | refine LeO.ite ?_ ?_
      | refine LeO.bind ?_ (fun _ => ?_)
theorem hexa_Short.mono : ∀ a0 k, LeO (hexa_Short.f k a0) (hexa_Short.f (k + 1) a0) := by
  intro a0 k
  have ih0 := hexa_Short.mono_l k
  unfold hexa_Short.f
  repeat' first
      | (with_reducible exact ih0 _ _)
      | (with_reducible exact LeO.refl _)
      | (with_reducible exact LeO.none _)
      | (with_reducible refine LeO.ite ?_ ?_)
      | (with_reducible refine LeO.bind ?_ (fun _ => ?_))
      | exact ih0 _ _
      | exact LeO.none _
      | refine LeO.ite ?_ ?_
      | refine LeO.bind ?_ (fun _ => ?_)
set_option maxHeartbeats 8000000 in
set_option maxRecDepth 100000 in
theorem hexa_Short.calls (k : Nat) (a0 : ByteArray) (r : Int) (w : World) (h : hexa_Short.f k a0 = some r) :
    Calls Tryd.prog 79 #[.string a0] w fun e w' => e = .returned (.int .i64 r) ∧ Below w.heap.size w w' := by
  have HB := Aside0.mk (Below.refl w.heap.size w)
  have H : (if (a0.size : Int) < 4 then (hexa_Short.j0 k a0 true) else (hexa_Short.j0 k a0 (decide ((a0.size : Int) > 64)))) = some r := h
  clear h
  have HC2 := Aside0.mk H
  clear H
  go_enter Tryd.func79, Tryd.ntmps79
  go_upto_region 1 with (fail)
  go_cut [3] (fun v3 wc => ∃ (kq : Nat) (x3_1 : Bool), v3 = .bool x3_1 ∧ Aside0 (hexa_Short.j0 kq a0 x3_1 = some r) ∧ Aside0 (kq ≤ k) ∧ Aside0 (Below w.heap.size w wc))
  case first =>
    have H := HC2.out
    clear HC2
    by_cases c3 : (a0.size : Int) < 4
    · rw [if_pos c3] at H
      have c3b0 : decide ((a0.size : Int) < 4) = true := decide_eq_true c3
      have c3b1 : decide (a0.size < 4) = true := decide_eq_true (by omega)
      clear c3
      (first | rw [c3b0] | (simp only [i64_w, i32_w]; rw [c3b0]) | skip)
      have H' := Aside0.mk H
      clear H
      go_wp2
      go_meet
      case rel => exact ⟨_, (true), (by first | rfl | (simp; done) | (simp [*]; done)), H', ⟨by first | omega | exact Nat.le_refl _⟩, ⟨by repeat (first | (with_reducible first | exact HB.out | apply below_alloc | apply pw_below_drewN | apply below_drew1) | exact HB.out)⟩⟩
    · rw [if_neg c3] at H
      have c3b0 : decide ((a0.size : Int) < 4) = false := decide_eq_false c3
      have c3b1 : decide (a0.size < 4) = false := decide_eq_false (by omega)
      clear c3
      (first | rw [c3b0] | (simp only [i64_w, i32_w]; rw [c3b0]) | skip)
      have H' := Aside0.mk H
      clear H
      go_wp2
      go_meet
      case rel => exact ⟨_, (decide ((a0.size : Int) > 64)), (by first | rfl | (simp; done) | (simp [*]; done)), H', ⟨by first | omega | exact Nat.le_refl _⟩, ⟨by repeat (first | (with_reducible first | exact HB.out | apply below_alloc | apply pw_below_drewN | apply below_drew1) | exact HB.out)⟩⟩
  case rest =>
    clear HC2
    try clear p2
    try clear c3
    try clear c3b0
    try clear c3b1
    obtain ⟨kq, x3_1, rfl, HA, HJ1, HB⟩ := hcut
    cases kq with
    | zero => exact absurd HA.out (by simp [hexa_Short.j0])
    | succ kj1 =>
      have H := HA.out
      clear HA
      simp only [hexa_Short.j0] at H
      by_cases c4 : x3_1 = true
      · subst c4
        have H1 : (some 1) = some r := by rw [if_pos rfl] at H; exact H
        clear H
        have H := H1
        clear H1
        obtain rfl := Option.some.inj H
        go_wp2
        go_ret
        exact ⟨by first | rfl | (simp [errW_none, errW_some] <;> rfl) | (simp [*, errW_none, errW_some] <;> rfl), by repeat (first | (with_reducible first | exact HB.out | apply below_alloc | apply pw_below_drewN | apply below_drew1) | exact HB.out)⟩
      · replace c4 := Bool.eq_false_iff.mpr c4
        subst c4
        have H1 : ((strings_Trim.f a0 (⟨#[48, 49, 50, 51, 52, 53, 54, 55, 56, 57, 97, 98, 99, 100, 101, 102]⟩ : ByteArray)).bind fun t114 => (if t114.toList = ([] : List UInt8) then (some 0) else (some 3))) = some r := by rw [if_neg (show ¬ (false = true) by decide)] at H; exact H
        clear H
        have H := H1
        clear H1
        replace H := Option.bind_eq_some_iff.mp H
        obtain ⟨t114, A50, H⟩ := H
        replace H : (if t114.toList = ([] : List UInt8) then (some 0) else (some 3)) = some r := H
        have A5 := Aside0.mk A50
        clear A50
        by_cases c6 : t114.toList = ([] : List UInt8)
        · rw [if_pos c6] at H
          have c6b0 : (t114.toList == ([] : List UInt8)) = true := beq_iff_eq.mpr c6
          have c6b1 : (t114.toList != ([] : List UInt8)) = false := bne_eq_false_iff_eq.mpr c6
          clear c6
          obtain rfl := Option.some.inj H
          go_wp2_with (first | ((with_reducible refine gate_callee (f := 54) rfl ?_); refine goesL_ (some 14) rfl rfl Tryd.func54 (by kernel_rfl) rfl #[.string a0, .string (⟨#[48, 49, 50, 51, 52, 53, 54, 55, 56, 57, 97, 98, 99, 100, 101, 102]⟩ : ByteArray)] rfl (by (try simp only [List.map_toArray, List.map_cons, List.map_nil]); first | done | rfl | (simp only [List.length_drop, List.length_take]; rfl)) ?_; (with_reducible refine (strings_Trim.calls a0 (⟨#[48, 49, 50, 51, 52, 53, 54, 55, 56, 57, 97, 98, 99, 100, 101, 102]⟩ : ByteArray) t114 _ A5.out).mono ?_); rintro e w7 ⟨rfl, hb⟩; refine ⟨_, rfl, ?_⟩; have n0_ := Aside0.mk (below_step (by repeat (first | (with_reducible first | exact HB.out | apply below_alloc | apply pw_below_drewN | apply below_drew1) | exact HB.out)) hb); clear HB; have HB := n0_; clear n0_; (try clear hb); (try clear hb2); (try clear hk); (try clear hi)))
          go_ret
          exact ⟨by first | rfl | (simp [errW_none, errW_some] <;> rfl) | (simp [*, errW_none, errW_some] <;> rfl), by repeat (first | (with_reducible first | exact HB.out | apply below_alloc | apply pw_below_drewN | apply below_drew1) | exact HB.out)⟩
        · rw [if_neg c6] at H
          have c6b0 : (t114.toList == ([] : List UInt8)) = false := beq_eq_false_iff_ne.mpr c6
          have c6b1 : (t114.toList != ([] : List UInt8)) = true := bne_iff_ne.mpr c6
          obtain rfl := Option.some.inj H
          go_wp2_with (first | ((with_reducible refine gate_callee (f := 54) rfl ?_); refine goesL_ (some 14) rfl rfl Tryd.func54 (by kernel_rfl) rfl #[.string a0, .string (⟨#[48, 49, 50, 51, 52, 53, 54, 55, 56, 57, 97, 98, 99, 100, 101, 102]⟩ : ByteArray)] rfl (by (try simp only [List.map_toArray, List.map_cons, List.map_nil]); first | done | rfl | (simp only [List.length_drop, List.length_take]; rfl)) ?_; (with_reducible refine (strings_Trim.calls a0 (⟨#[48, 49, 50, 51, 52, 53, 54, 55, 56, 57, 97, 98, 99, 100, 101, 102]⟩ : ByteArray) t114 _ A5.out).mono ?_); rintro e w8 ⟨rfl, hb⟩; refine ⟨_, rfl, ?_⟩; have n0_ := Aside0.mk (below_step (by repeat (first | (with_reducible first | exact HB.out | apply below_alloc | apply pw_below_drewN | apply below_drew1) | exact HB.out)) hb); clear HB; have HB := n0_; clear n0_; (try clear hb); (try clear hb2); (try clear hk); (try clear hi)))
          go_ret
          exact ⟨by first | rfl | (simp [errW_none, errW_some] <;> rfl) | (simp [*, errW_none, errW_some] <;> rfl), by repeat (first | (with_reducible first | exact HB.out | apply below_alloc | apply pw_below_drewN | apply below_drew1) | exact HB.out)⟩
def hexa_Size.f (a0 : Int) : Option (Int) := if a0 = 1 then (some 20) else (if a0 = 2 then (some 32) else (some 0))
set_option maxHeartbeats 8000000 in
set_option maxRecDepth 100000 in
theorem hexa_Size.calls (a0 : Int) (r : Int) (w : World) (h : hexa_Size.f a0 = some r) :
    Calls Tryd.prog 28 #[.int .i64 a0] w fun e w' => e = .returned (.int .i64 r) ∧ Drawn0 w w' := by
  have H : (if a0 = 1 then (some 20) else (if a0 = 2 then (some 32) else (some 0))) = some r := h
  clear h
  by_cases c2 : a0 = 1
  · rw [if_pos c2] at H
    have c2b0 : (a0 == 1) = true := beq_iff_eq.mpr c2
    have c2b1 : (a0 != 1) = false := bne_eq_false_iff_eq.mpr c2
    clear c2
    obtain rfl := Option.some.inj H
    go_enter Tryd.func28, Tryd.ntmps28
    go_wp2
    go_ret
    exact ⟨by first | rfl | (simp; done) | (simp [*]; done), by repeat (first | exact Drawn0.refl _ | apply Drawn0.step)⟩
  · rw [if_neg c2] at H
    have c2b0 : (a0 == 1) = false := beq_eq_false_iff_ne.mpr c2
    have c2b1 : (a0 != 1) = true := bne_iff_ne.mpr c2
    by_cases c3 : a0 = 2
    · rw [if_pos c3] at H
      have c3b0 : (a0 == 2) = true := beq_iff_eq.mpr c3
      have c3b1 : (a0 != 2) = false := bne_eq_false_iff_eq.mpr c3
      clear c3
      obtain rfl := Option.some.inj H
      go_enter Tryd.func28, Tryd.ntmps28
      go_wp2
      go_ret
      exact ⟨by first | rfl | (simp; done) | (simp [*]; done), by repeat (first | exact Drawn0.refl _ | apply Drawn0.step)⟩
    · rw [if_neg c3] at H
      have c3b0 : (a0 == 2) = false := beq_eq_false_iff_ne.mpr c3
      have c3b1 : (a0 != 2) = true := bne_iff_ne.mpr c3
      obtain rfl := Option.some.inj H
      go_enter Tryd.func28, Tryd.ntmps28
      go_wp2
      go_ret
      exact ⟨by first | rfl | (simp; done) | (simp [*]; done), by repeat (first | exact Drawn0.refl _ | apply Drawn0.step)⟩
def diptychref01_digit.f (a0 : Int) : Option (Int) := if a0 < 10 then (some ((48 + a0) % 256)) else (some ((87 + a0) % 256))
set_option maxHeartbeats 8000000 in
set_option maxRecDepth 100000 in
theorem diptychref01_digit.calls (a0 : Int) (r : Int) (w : World) (h : diptychref01_digit.f a0 = some r) :
    Calls Tryd.prog 63 #[.int .u8 a0] w fun e w' => e = .returned (.int .u8 r) ∧ Drawn0 w w' := by
  have H : (if a0 < 10 then (some ((48 + a0) % 256)) else (some ((87 + a0) % 256))) = some r := h
  clear h
  by_cases c2 : a0 < 10
  · rw [if_pos c2] at H
    have c2b0 : decide (a0 < 10) = true := decide_eq_true c2
    clear c2
    obtain rfl := Option.some.inj H
    go_enter Tryd.func63, Tryd.ntmps63
    go_wp2
    go_ret
    exact ⟨by first | rfl | (simp; done) | (simp [*]; done), by repeat (first | exact Drawn0.refl _ | apply Drawn0.step)⟩
  · rw [if_neg c2] at H
    have c2b0 : decide (a0 < 10) = false := decide_eq_false c2
    clear c2
    obtain rfl := Option.some.inj H
    go_enter Tryd.func63, Tryd.ntmps63
    go_wp2
    go_ret
    exact ⟨by first | rfl | (simp; done) | (simp [*]; done), by repeat (first | exact Drawn0.refl _ | apply Drawn0.step)⟩
end Go.Proofs.YtnhchnlgleokoaaDoor.P
end
