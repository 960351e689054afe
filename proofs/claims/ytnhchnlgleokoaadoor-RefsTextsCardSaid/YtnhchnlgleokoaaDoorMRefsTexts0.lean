/- Merged out of this session's texts by a program (wip/gen/merge.py): declarations that this claim doesn't name are left out. -/
import Derived.Deep.Quiet
import Derived.StillTail
import Derived.Below
import Derived.Laws.Rows
import Derived.Laws.Entries
import Derived.Deep.MidRow
import Derived.KernelRfl
import Derived.Tactics
import Derived.Deep.LoopGhost
import Derived.Deep.WholeRow
import Derived.Lib.Hide
import Derived.DeepKeys
import Derived.Laws.StructEq
import Derived.Laws.AppendOwn
import Derived.Laws.IdiomCopy
import Derived.Lib.AppendStr
import Derived.Lib.ConvBytes
import Derived.Laws.BytesString
import Derived.Deep.Draws
import Derived.Deep.AppendLies
import Derived.Maps.AppendAt
import Derived.OwnWalk
import Derived.Laws.BytesArg
import Derived.Laws.MakeOwn
import Derived.Laws.OwnMore
import Derived.Deep.OwnRows
import Derived.Laws.Slices
import Derived.WalkKit
import Derived.RowKit3
import Derived.Deep.QuietTactic
import Derived.BigQuiet
import Derived.WideLaws
import Derived.Deep.DeepCutAuto
import Derived.Deep.CutBlock
import Derived.Deep.RegionHeld3
import Derived.ArgAppend
import Derived.RowKit
import Derived.Laws.Tables
set_option linter.unusedVariables false
set_option linter.unusedSimpArgs false
/-! Q0 -/
section
namespace Go.Proofs.YtnhchnlgleokoaaDoor.Q
open Go.RowKit
def Low (W : World) (w' : World) : Prop := Below W.heap.size W w'
def qch (P : Program) (C : World → Prop) (Q : Act → Prop) : List Oper → Act → Prop
  | [], a => Q a
  | o :: rest, a => o.quiet P a C (qch P C Q rest)
def plainB (l : List Oper) : Bool := l.all fun o => o.guard.isNone
theorem wanted_plain {o : Oper} {y : Nat → Option Bool} (h : o.guard.isNone = true) : Region.wanted o y = true := by
  unfold Region.wanted
  cases hg : o.guard with
  | none => rfl
  | some x => rw [hg] at h; cases h
theorem wpQuiet_of_qch {P : Program} {ops : Array Oper} {C : World → Prop} {Q : Act → Prop} : ∀ (l : List Oper) (a : Act), plainB l = true → qch P C Q l a → wpQuiet P ops C Q l a
  | [], _, _, h => h
  | o :: l, a, hp, h => by
    simp only [plainB, List.all_cons, Bool.and_eq_true] at hp
    unfold wpQuiet
    rw [if_pos (wanted_plain hp.1)]
    exact Oper.quiet_mono (fun a' => wpQuiet_of_qch l a' hp.2) h
theorem low_drawn (W : World) : Low W { W with drawn := W.drawn + 1 } := ⟨rfl, rfl, rfl, Nat.le_refl _, fun _ _ => rfl⟩
theorem region_low {P : Program} {id : Nat} {Q : Exit → Act → World → Prop} {a : Act} {W : World} {l : List Oper} (hm : P.follows .mixedOrders = true) (hB : (Region.lexB .any l.toArray && plainB l) = true)
    (h : qch P (Low W) (fun a' => ∀ w', Low W w' → Q .normal a' w') l a) : (Code.region id l.toArray true).wp P Q a W := by
  rw [Bool.and_eq_true] at hB
  exact wp_region_quiet hm hB.1 (low_drawn W) (wpQuiet_of_qch _ _ hB.2 h)
def mute (s : Oper) : Oper := { s with dst := none, op := .move (.const undef) }
theorem look (l : List Oper) (s : Oper) (i : Nat) : (l ++ [s]).toArray[i]? = if i < l.length then l[i]? else if i = l.length then some s else none := by
  rw [List.getElem?_toArray, List.getElem?_append]
  split
  · rfl
  · split
    · rename_i h; subst h; simp
    · rw [List.getElem?_eq_none]; simp; omega
theorem ready_mute (md : Region.Mode) (l : List Oper) (s : Oper) (listed : Array Bool) : Region.ready md (l ++ [mute s]).toArray listed = Region.ready md (l ++ [s]).toArray listed := by
  unfold Region.ready
  rw [show (l ++ [mute s]).toArray.size = (l ++ [s]).toArray.size from by simp]
  refine List.filter_congr fun i _ => ?_
  rw [look, look]
  split
  · rfl
  · split <;> rfl
def backB (md : Region.Mode) (ops : Array Oper) : Bool := (List.range ops.size).all fun i => (ops[i]?).all fun o => o.after.all fun e => !Region.binds md e || decide (e.on < i)
theorem back_spec {md : Region.Mode} {ops : Array Oper} (h : backB md ops = true) {i : Nat} {o : Oper} (ho : ops[i]? = some o) {e : Edge} (he : e ∈ o.after) (hb : Region.binds md e = true) : e.on < i := by
  have hi : i < ops.size := (Array.getElem?_eq_some_iff.1 ho).1
  have h1 := List.all_eq_true.1 h i (List.mem_range.2 hi)
  rw [ho] at h1
  have h2 : o.after.all (fun e => !Region.binds md e || decide (e.on < i)) = true := h1
  have h3 := Array.all_eq_true'.1 h2 e he
  rw [hb] at h3
  simpa using h3
section
variable {P : Program} {md : Region.Mode} {C : World → Prop} {Q : Exit → Act → World → Prop}
theorem some_ready {ops : Array Oper} {listed : Array Bool} (hsz : listed.size = ops.size) (hback : backB md ops = true) : ∀ i, i < ops.size → listed.getD i true = false → Region.ready md ops listed ≠ [] := by
  intro i
  induction i using Nat.strongRecOn with
  | _ i ih =>
    intro hi hun hnil
    have hno : i ∉ Region.ready md ops listed := by rw [hnil]; exact List.not_mem_nil
    apply hno
    have ho : ops[i]? = some ops[i] := Array.getElem?_eq_getElem hi
    refine mem_ready.2 ⟨hun, ops[i], ho, fun e he hb => ?_⟩
    have hlt := back_spec hback ho he hb
    by_cases hl : listed.getD e.on false = true
    · exact hl
    · exact absurd hnil (ih e.on hlt (by omega) (getD_in (by omega) (by simpa using hl)))
theorem wpAny_low {l : List Oper} {s : Oper} (hp : plainB l = true) (hback : backB md (l ++ [s]).toArray = true) (hs : Region.sinkB md (l ++ [s]).toArray l.length = true) (hc : Region.chainB md (l ++ [s]).toArray l.length = true) :
    ∀ (fuel : Nat) (listed : Array Bool) (a : Act) (w : World), HeadInv md (l ++ [s]).toArray l.length listed → C w →
      wpAnyQ P md (l ++ [mute s]).toArray C (fun a' => ∀ w', C w' → wpOp P (l ++ [s]).toArray Q l.length (Q .normal) a' w') fuel listed a → wpAny P md (l ++ [s]).toArray Q fuel listed a w := by
  have hn : l.length < (l ++ [s]).toArray.size := by simp
  intro fuel
  induction fuel with
  | zero =>
    intro listed a w inv _ h
    have := h.1
    rw [ready_mute] at this
    exact absurd this (some_ready inv.size hback l.length hn (inv.tail _ (Nat.le_refl _) hn))
  | succ fuel ih =>
    intro listed a w inv hw h
    refine ⟨fun h0 => absurd h0 (some_ready inv.size hback l.length hn (inv.tail _ (Nat.le_refl _) hn)), fun i hi => ?_⟩
    have hq := h.2 i (by rw [ready_mute]; exact hi)
    obtain ⟨hun, o, ho, hall⟩ := mem_ready.1 hi
    have hisz : i < (l ++ [s]).toArray.size := (Array.getElem?_eq_some_iff.1 ho).1
    by_cases hin : i < l.length
    · have ho' : (l ++ [mute s]).toArray[i]? = some o := by rw [look, if_pos hin]; rw [look, if_pos hin] at ho; exact ho
      have hol : o ∈ l := by rw [look, if_pos hin] at ho; exact List.mem_of_getElem? ho
      have hg : o.guard.isNone = true := List.all_eq_true.1 hp o hol
      unfold qOp at hq
      unfold wpOp
      simp only [ho', ho] at hq ⊢
      rw [if_pos (wanted_plain hg)] at hq ⊢
      exact .inl (Oper.wp_of_quiet hw (fun a' w' hw' hk => ih _ a' w' (inv.set hi hin) hw' hk) hq)
    · have hie : i = l.length := by simp at hisz; omega
      subst hie
      have hdone : Region.ready md (l ++ [s]).toArray (listed.setIfInBounds l.length true) = [] := by
        rw [List.eq_nil_iff_forall_not_mem]
        intro j hj
        obtain ⟨hju, oj, hoj, _⟩ := mem_ready.1 hj
        have hjsz : j < (l ++ [s]).toArray.size := (Array.getElem?_eq_some_iff.1 hoj).1
        by_cases hje : l.length = j
        · subst hje
          have : (listed.setIfInBounds l.length true).getD l.length true = true := by
            simp [Array.getD_eq_getD_getElem?, Array.getElem?_setIfInBounds_self]
            split <;> rfl
          rw [this] at hju
          cases hju
        · rw [getD_set_ne true hje] at hju
          have hjl : j < l.length := by simp at hjsz; omega
          exact tail_waits hs hc hn inv _ j rfl hjl hju l.length (Nat.le_refl _) hi
      have hbase : ∀ a' w', wpAny P md (l ++ [s]).toArray Q fuel (listed.setIfInBounds l.length true) a' w' ↔ Q .normal a' w' := by
        intro a' w'
        cases fuel with
        | zero => exact ⟨fun h => h.2, fun h => ⟨hdone, h⟩⟩
        | succ f => exact ⟨fun h => h.1 hdone, fun h => ⟨fun _ => h, fun j hj => by rw [hdone] at hj; cases hj⟩⟩
      have hm : (l ++ [mute s]).toArray[l.length]? = some (mute s) := by rw [look, if_neg (Nat.lt_irrefl _), if_pos rfl]
      have hk : wpAnyQ P md (l ++ [mute s]).toArray C (fun a' => ∀ w', C w' → wpOp P (l ++ [s]).toArray Q l.length (Q .normal) a' w') fuel (listed.setIfInBounds l.length true) a := by
        unfold qOp at hq
        simp only [hm] at hq
        split at hq
        · obtain ⟨v, _, hn⟩ := hq; exact hn
        · exact hq
      have hlast : ∀ w', C w' → wpOp P (l ++ [s]).toArray Q l.length (Q .normal) a w' := by
        cases fuel with
        | zero => exact hk.2
        | succ f => exact hk.1 (by rw [ready_mute]; exact hdone)
      exact wpOp_mono (fun a' w' h => (hbase a' w').2 h) (hlast w hw)
theorem qch_snoc {Q : Act → Prop} (s : Oper) : ∀ (l : List Oper) (a : Act), qch P C Q l a → qch P C Q (l ++ [mute s]) a
  | [], a, h => ⟨undef, fun w _ => by unfold Oper.quietAt; simp [mute, execOp, Oper.quietUpon, Sem.run, Act.eval], h⟩
  | o :: l, a, h => Oper.quiet_mono (fun a' => qch_snoc s l a') h
def tailB (md : Region.Mode) (l : List Oper) (n : Nat) : Bool :=
  decide (l.length = n + 1) && plainB (l.take n) && backB md l.toArray && Region.sinkB md l.toArray n && Region.chainB md l.toArray n && (l.drop n).all (fun s => s.guard.isNone && Region.lexB md (l.take n ++ [mute s]).toArray)
theorem region_low_tail {id : Nat} {a : Act} {W : World} {l : List Oper} (n : Nat) (hm : P.follows .mixedOrders = true) (hB : tailB .any l n = true)
    (h : qch P (Low W) (fun a' => ∀ w', Low W w' → wpList P l.toArray Q (l.drop n) a' w') (l.take n) a) : (Code.region id l.toArray true).wp P Q a W := by
  simp only [tailB, Bool.and_eq_true, decide_eq_true_eq] at hB
  obtain ⟨⟨⟨⟨⟨hlen, hp⟩, hback⟩, hs⟩, hc⟩, hall⟩ := hB
  obtain ⟨s, hds⟩ : ∃ s, l.drop n = [s] := List.length_eq_one_iff.1 (by rw [List.length_drop]; omega)
  have hl : l = l.take n ++ [s] := by rw [← hds, List.take_append_drop]
  have htl : (l.take n).length = n := by rw [List.length_take]; omega
  rw [hds] at hall h
  simp only [List.all_cons, List.all_nil, Bool.and_true, Bool.and_eq_true] at hall
  generalize l.take n = h0 at *
  subst hl
  subst htl
  have hlx := hall.2
  simp only [Region.lexB, Bool.and_eq_true] at hlx
  have hq := wpAnyQ_lex (P := P) (C := Low W) (md := .any) (Q := fun a' => ∀ w', Low W w' → wpOp P (h0 ++ [s]).toArray Q h0.length (Q .normal) a' w') hlx.1 (h0 ++ [mute s]) 0 (Array.replicate (h0 ++ [mute s]).toArray.size false) a (by simp) (by simpa using hlx.2)
    (wpQuiet_of_qch _ _ (by
      unfold plainB at hp ⊢
      rw [List.all_append, hp]
      simpa [mute] using hall.1) (qch_snoc s h0 a (by
        have key : ∀ (l : List Oper) (a : Act), qch P (Low W) (fun a' => ∀ w', Low W w' → wpList P (h0 ++ [s]).toArray Q [s] a' w') l a → qch P (Low W) (fun a' => ∀ w', Low W w' → wpOp P (h0 ++ [s]).toArray Q h0.length (Q .normal) a' w') l a := by
          intro l
          induction l with
          | nil =>
            intro a h w' hw'
            have := h w' hw'
            unfold wpOp
            rw [look, if_neg (Nat.lt_irrefl _), if_pos rfl]
            simp only
            unfold wpList at this
            exact this
          | cons o l ih => intro a h; exact Oper.quiet_mono (fun a' => ih a') h
        exact key _ _ h)))
  refine wp_region_any hm (wpAny_low (C := Low W) hp hback hs hc _ _ _ _ ?_ (low_drawn W) ?_)
  · exact ⟨by simp, fun j oj _ hl => (by rw [getD_replicate_false] at hl; cases hl), fun t _ ht => getD_in (by simpa using ht) (getD_replicate_false _ _)⟩
  · simpa using hq
end
end Go.Proofs.YtnhchnlgleokoaaDoor.Q
end
/-! Q1 -/
section
namespace Go.Proofs.YtnhchnlgleokoaaDoor.Q
open Go.RowKit
section
variable {P : Program} {o : Oper} {a : Act} {C : World → Prop} {K : Act → Prop}
theorem q_val (v : Value) (h : ∀ w, C w → (execOp a.eval o).run P w = .ok (.value v) w) (hn : K (a.put o.dst v)) : o.quiet P a C K :=
  ⟨v, fun w hw => by unfold Oper.quietAt; rw [h w hw]; exact ⟨rfl, rfl⟩, hn⟩
theorem q_move (x : Operand) (v : Value) (ho : o.op = .move x) (hx : a.eval x = v) (hn : K (a.put o.dst v)) : o.quiet P a C K :=
  q_val v (fun w _ => by unfold execOp; simp only [ho, hx]; rfl) hn
theorem q_assign (x : Operand) (v : Value) (ho : o.op = .assign x) (hx : a.eval x = v) (hn : K (a.put o.dst v)) : o.quiet P a C K :=
  q_val v (fun w _ => by unfold execOp; simp only [ho, hx]; rfl) hn
theorem run_bin {op : BinOp} {T T' : TypeId} {x y : Operand} (ho : o.op = .binOp op T x y T') {k k' : IntKind} {m n : Int} (hx : a.eval x = .int k m) (hy : a.eval y = .int k' n) (w : World) :
    (execOp a.eval o).run P w = (do pure (.value (← binOp op T (.int k m) (.int k' n))) : Sem Next).run P w := by
  unfold execOp
  simp only [ho, hx, hy, eqGuard]
  cases op <;> rfl
theorem q_add {T T' : TypeId} {x y : Operand} {k : IntKind} {m n : Int} (z : Int) (ho : o.op = .binOp .add T x y T') (hx : a.eval x = .int k m) (hy : a.eval y = .int k n) (hz : k.wrap (m + n) = z) (hn : K (a.put o.dst (.int k z))) : o.quiet P a C K :=
  q_val _ (fun w _ => by rw [run_bin ho hx hy, ← hz]; simp [binOp, Op.intArith, Sem.run_pure]) hn
theorem q_sub {T T' : TypeId} {x y : Operand} {k : IntKind} {m n : Int} (z : Int) (ho : o.op = .binOp .sub T x y T') (hx : a.eval x = .int k m) (hy : a.eval y = .int k n) (hz : k.wrap (m - n) = z) (hn : K (a.put o.dst (.int k z))) : o.quiet P a C K :=
  q_val _ (fun w _ => by rw [run_bin ho hx hy, ← hz]; simp [binOp, Op.intArith, Sem.run_pure]) hn
theorem q_lss {T T' : TypeId} {x y : Operand} {k : IntKind} {m n : Int} (b : Bool) (ho : o.op = .binOp .lss T x y T') (hx : a.eval x = .int k m) (hy : a.eval y = .int k n) (hb : decide (m < n) = b) (hn : K (a.put o.dst (.bool b))) : o.quiet P a C K :=
  q_val _ (fun w _ => by rw [run_bin ho hx hy, ← hb]; simp [binOp, Op.intCmp, Sem.run_pure]) hn
theorem q_geq {T T' : TypeId} {x y : Operand} {k : IntKind} {m n : Int} (b : Bool) (ho : o.op = .binOp .geq T x y T') (hx : a.eval x = .int k m) (hy : a.eval y = .int k n) (hb : decide (m ≥ n) = b) (hn : K (a.put o.dst (.bool b))) : o.quiet P a C K :=
  q_val _ (fun w _ => by rw [run_bin ho hx hy, ← hb]; simp [binOp, Op.intCmp, Sem.run_pure]) hn
theorem q_shr {T T' : TypeId} {x y : Operand} {k k' : IntKind} {m n : Int} (z : Int) (ho : o.op = .binOp .shr T x y T') (hx : a.eval x = .int k m) (hy : a.eval y = .int k' n) (h0 : 0 ≤ n) (hz : m.fdiv (2 ^ min n.toNat k.bits) = z) (hn : K (a.put o.dst (.int k z))) : o.quiet P a C K :=
  q_val _ (fun w _ => by rw [run_bin ho hx hy, ← hz]; simp [binOp, Op.shift, show ¬ n < 0 from by omega, Sem.run_pure]) hn
theorem q_conv {S T : TypeId} {x : Operand} {k k' : IntKind} {m : Int} {d : TypeDesc} (z : Int) (ho : o.op = .convert S T x) (hx : a.eval x = .int k m) (hS : P.underlying S = some d) (hT : P.underlying T = some (.int k')) (hz : k'.wrap m = z) (hn : K (a.put o.dst (.int k' z))) : o.quiet P a C K :=
  q_val _ (fun w _ => by
    unfold execOp
    simp only [ho, hx, convert, Sem.run_bind, run_underlying hS w, run_underlying hT w, Result.andThen_ok, Conv.intToInt, Sem.run_pure, hz]) hn
theorem run_sizeOf1 {t : TypeId} {n : Nat} (h : (P.info? t).map (·.size) = some n) (w : World) : (sizeOf t).run P w = .ok n w := by
  cases hq : P.info? t with
  | none => simp [hq] at h
  | some i => simp [hq] at h; simp [sizeOf, typeInfo, hq, h]
theorem q_row {T t : TypeId} {x : Operand} {d : TypeDesc} {g : Nat} {cs : Array Value} {fr : Nat × Nat} (ho : o.op = .load T x) (hT : P.underlying T = some d) (hd : (match d with | .struct _ | .array _ _ => true | _ => false) = true) (hi : (P.info? T).map (·.size) = some cs.size)
    (hx : a.eval x = .pointer (some ⟨g, 0, none⟩)) (hc : ∀ w, C w → w.heap[g]? = some (.cells cs t fr)) (hn : K (a.put o.dst (.agg cs))) : o.quiet P a C K :=
  q_val _ (fun w hw => by
    unfold execOp
    simp only [ho, hx, Instr.loadAt, Instr.sureAddr, Sem.run_bind, Sem.run_pure, Result.andThen_ok, run_loadVar_row w g t T cs fr d (hc w hw) hT hd hi]) hn
theorem q_stridx {T : TypeId} {x ix : Operand} {s : ByteArray} {j : Nat} (ho : o.op = .index T x ix) (hT : P.underlying T = some .string) (hx : a.eval x = .string s) (hi : a.eval ix = .int .i64 (j : Int)) (hj : j < s.size) (hn : K (a.put o.dst (.int .u8 (s[j].toNat : Int)))) : o.quiet P a C K :=
  q_val _ (fun w _ => by
    unfold execOp
    simp [ho, hx, hi, Instr.index, asIntOf, Sem.run_bind, run_underlying hT w, hj]) hn
theorem q_call {f : FuncId} {fn : Func} {c : Call} {args : Array Value} (v : Value) (ho : o.op = .call c) (hc : c.callee = .value (.func f)) (hf : P.funcs[f]? = some fn) (hn' : (fn.name == "runtime.NumGoroutine" || fn.body.isNone) = false)
    (ha : c.args.map a.eval = args) (hcall : ∀ w, C w → Calls P f args w fun e w' => e = .returned v ∧ C w') (hn : K (a.put o.dst v)) : o.quiet P a C K :=
  ⟨v, fun w hw => by
    have hrun : (execOp a.eval o).run P w = .ok (.enter f args) w := by
      rw [Bool.or_eq_false_iff] at hn'
      unfold execOp
      have hpr : (program : Sem Program).run P w = .ok P w := rfl
      simp only [ho, resolve, hc, ha, Act.eval, Deferred.ofValue, invoke, callFunc, Sem.run_bind, Sem.run_pure, Result.andThen_ok, hpr, hf, hn'.1, hn'.2, Array.append_empty, Array.empty_append]
      rfl
    unfold Oper.quietAt
    rw [hrun]
    exact ⟨rfl, hcall w hw⟩, hn⟩
end
end Go.Proofs.YtnhchnlgleokoaaDoor.Q
end
/-! Q2 -/
section
namespace Go.Proofs.YtnhchnlgleokoaaDoor.Q
open Go.RowKit
def At (a : Act) (t : Nat) (v : Value) : Prop := a.tmps[t]? = some v
structure Fr (N : Nat) (a : Act) : Prop where
  size : a.tmps.size = N
  defers : a.defers = []
theorem At.ev {a : Act} {t : Nat} {v : Value} (h : At a t v) : a.eval (.tmp t) = v := by
  unfold At at h
  simp [Act.eval, h]
theorem At.ne {a : Act} {t d : Nat} {v u : Value} (h : At a t v) (hd : Nat.beq d t = false) : At (a.put (some d) u) t v := by
  unfold At at *
  have : d ≠ t := fun e => by subst e; simp at hd
  simp only [Act.put]
  rw [Array.getElem?_setIfInBounds_ne this]
  exact h
theorem Fr.put {N : Nat} {a : Act} {d : Option Nat} {u : Value} (h : Fr N a) : Fr N (a.put d u) := by
  cases d with
  | none => exact h
  | some d => exact ⟨by simp [Act.put, h.size], h.defers⟩
theorem At.hit {N : Nat} {a : Act} {t : Nat} {u : Value} (z : Fr N a) (h : Nat.blt t N = true) : At (a.put (some t) u) t u := by
  have h' : t < a.tmps.size := by rw [z.size]; simpa using h
  unfold At
  simp [Act.put, h']
theorem At.same {a : Act} {t : Nat} {v v' : Value} (h : At a t v) (e : v = v') : At a t v' := e ▸ h
structure Upd (g : Nat) (w w' : World) : Prop where
  os : w'.os = w.os
  tape : w'.tape = w.tape
  output : w'.output = w.output
  size : w'.heap.size = w.heap.size
  block : ∀ k, k ≠ g → w'.heap[k]? = w.heap[k]?
theorem heap_lt {w : World} {g : Nat} {o : Obj} (h : w.heap[g]? = some o) : g < w.heap.size := (Array.getElem?_eq_some_iff.1 h).1
theorem Low.refl (w : World) : Low w w := Below.refl _ _
theorem Low.blk {w w' : World} (h : Low w w') {g : Nat} {o : Obj} (hb : w.heap[g]? = some o) : w'.heap[g]? = some o := (h.block g (heap_lt hb)).trans hb
theorem Upd.blk {w w' : World} {g k : Nat} (h : Upd g w w') {o : Obj} (hb : w.heap[k]? = some o) (hne : k ≠ g) : w'.heap[k]? = some o := (h.block k hne).trans hb
theorem Low.trans {a b c : World} (h : Low a b) (k : Low b c) : Low a c :=
  Below.trans h ⟨k.os, k.tape, k.output, k.size, fun i hi => k.block i (Nat.lt_of_lt_of_le hi h.size)⟩
theorem Low.upd {a b c : World} {g : Nat} (h : Low a b) (k : Upd g b c) (hg : a.heap.size ≤ g) : Low a c :=
  Below.trans h ⟨k.os, k.tape, k.output, Nat.le_of_eq k.size.symm, fun i hi => k.block i (by omega)⟩
theorem Low.ge {a b : World} (h : Low a b) : a.heap.size ≤ b.heap.size := h.size
theorem cells_at {w : World} {g : Nat} {cs : Array Value} {t : TypeId} (h : w.heap[g]? = some (.cells cs t)) (i : Nat) : w.cell? ⟨g, i, none⟩ = cs[i]? := cell_of_row w g i cs t (0, 0) h
theorem thawed {w : World} {g : Nat} {cs : Array Value} {t : TypeId} (h : w.heap[g]? = some (.cells cs t)) (i : Nat) : w.frozen? ⟨g, i, none⟩ = false := by simp [World.frozen?, h]
def nums (k : IntKind) (l : List Int) : Array Value := (l.map (Value.int k)).toArray
theorem nums_get (k : IntKind) (l : List Int) (i : Nat) (h : i < l.length) : (nums k l)[i]? = some (.int k (l.getD i 0)) := by
  simp [nums, h, List.getD_eq_getElem?_getD]
theorem nums_cell {w : World} {g : Nat} {k : IntKind} {l : List Int} {t : TypeId} (h : w.heap[g]? = some (.cells (nums k l) t)) (i : Nat) (hi : i < l.length) : w.cell? ⟨g, i, none⟩ = some (.int k (l.getD i 0)) :=
  (cells_at h i).trans (nums_get k l i hi)
section
variable {P : Program} {Q : Exit → Act → World → Prop} {a : Act} {w : World}
theorem c_seq {x y : Code} (h : x.wp P (Exit.then (y.wp P Q) Q) a w) : (Code.seq x y).wp P Q a w := wp_seq h
theorem in_exit {id : Nat} (h : Q .normal a w) : Exit.inBlock id Q (.exit id) a w := by
  show (if id = id then Q .normal a w else Q (.exit id) a w)
  rw [if_pos rfl]
  exact h
theorem c_true {t : Nat} {x y : Code} (hc : At a t (.bool true)) (h : x.wp P Q a w) : (Code.cond (.tmp t) x y).wp P Q a w := wp_cond_true hc.ev h
theorem c_false {t : Nat} {x y : Code} (hc : At a t (.bool false)) (h : y.wp P Q a w) : (Code.cond (.tmp t) x y).wp P Q a w := wp_cond_false hc.ev h
/-- a loop of n rounds -/
theorem c_loop {c : Code} (n : Nat) (F : Nat → Act → World → Prop) (h0 : F 0 a w) (round : ∀ k a w, k < n → F k a w → c.wp P (Exit.then (F (k + 1)) Q) a w) (last : ∀ a w, F n a w → c.wp P (Exit.then (fun _ _ => False) Q) a w) : (Code.loop c).wp P Q a w := by
  refine wp_loop_ghost (fun m a w => ∃ k, k + m = n ∧ F k a w) n ⟨0, by omega, h0⟩ ?_
  rintro m a w ⟨k, hk, hF⟩
  by_cases hlt : k < n
  · refine wp_mono (round k a w hlt hF) fun e a' w' hq => ?_
    cases e with
    | normal => exact ⟨m - 1, by omega, k + 1, by omega, hq⟩
    | _ => exact hq
  · obtain rfl : k = n := by omega
    refine wp_mono (last a w hF) fun e a' w' hq => ?_
    cases e with
    | normal => exact hq.elim
    | _ => exact hq
theorem c_fun {f : FuncId} {fn : Func} {c : Code} {args : Array Value} {R : Ending → World → Prop} (hf : P.funcs[f]? = some fn) (hb : fn.body = some c) (n : Nat) (hn : fn.ntmps = n) (hsz : args.size ≤ n)
    (h : ∀ a, Fr n a → (∀ i v, args[i]? = some v → At a i v) → c.wp P (bodyPost P fn R) a w) : Calls P f args w R := by
  refine calls_of_wp hf hb (h _ ⟨by simp [hn]; omega, rfl⟩ fun i v hv => ?_)
  unfold At
  have hi : i < args.size := (Array.getElem?_eq_some_iff.1 hv).1
  show (args ++ Array.replicate (fn.ntmps - args.size) undef)[i]? = some v
  rw [Array.getElem?_append_left hi]
  exact hv
theorem c_region {id : Nat} {l : List Oper} (h : wpList P l.toArray Q l a w) : (Code.region id l.toArray false).wp P Q a w := wp_region_lit h
variable {ops : Array Oper} {rest : List Oper} {o : Oper}
theorem l_q (hg : o.guard = none) (h : o.quiet P a (fun W => W = w) (fun a' => wpList P ops Q rest a' w)) : wpList P ops Q (o :: rest) a w :=
  wpList_plain hg fun K hK => Oper.wp_of_quiet (C := fun W => W = w) rfl (fun a' w' hw hk => by subst hw; exact hK _ _ hk) h
theorem l_call {f : FuncId} {fn : Func} {c : Call} {args : Array Value} (R : Value → World → Prop) (hg : o.guard = none) (ho : o.op = .call c) (hc : c.callee = .value (.func f)) (hf : P.funcs[f]? = some fn) (hn' : (fn.name == "runtime.NumGoroutine" || fn.body.isNone) = false)
    (ha : c.args.map a.eval = args) (hcall : Calls P f args w fun e w' => ∃ v, e = .returned v ∧ R v w') (h : ∀ v w', R v w' → wpList P ops Q rest (a.put o.dst v) w') : wpList P ops Q (o :: rest) a w := by
  refine wpList_plain hg fun K hK => ?_
  have hrun : (execOp a.eval o).run P w = .ok (.enter f args) w := by
    rw [Bool.or_eq_false_iff] at hn'
    unfold execOp
    have hpr : (program : Sem Program).run P w = .ok P w := rfl
    simp only [ho, resolve, hc, ha, Act.eval, Deferred.ofValue, invoke, callFunc, Sem.run_bind, Sem.run_pure, Result.andThen_ok, hpr, hf, hn'.1, hn'.2, Array.append_empty, Array.empty_append]
    rfl
  unfold Oper.wp
  rw [hrun]
  exact hcall.mono fun e w' ⟨v, he, hR⟩ => by subst he; exact hK _ _ (h v w' hR)
theorem new_block (w : World) (ob : Obj) : (w.alloc ob).heap[w.heap.size]? = some ob := heap_alloc_new w ob
theorem low_new (w : World) (ob : Obj) : Low w (w.alloc ob) := Below.alloc (Below.refl _ _) (Nat.le_refl _) ob
theorem run_newVar {t : TypeId} {cs : Array Value} (w : World) : (newVar t (.agg cs)).run P w = .ok ⟨w.heap.size, 0, none⟩ (w.alloc (.cells cs t)) := rfl
theorem l_alloc {T : TypeId} {cs : Array Value} (hg : o.guard = none) (ho : o.op = .alloc T) (hz : ∀ w, (zeroValue T).run P w = .ok (.agg cs) w)
    (h : ∀ g w', w.heap.size ≤ g → w'.heap[g]? = some (.cells cs T) → Low w w' → wpList P ops Q rest (a.put o.dst (.pointer (some ⟨g, 0, none⟩))) w') : wpList P ops Q (o :: rest) a w := by
  refine wpList_plain hg fun K hK => ?_
  have hrun : (execOp a.eval o).run P w = .ok (.value (.pointer (some ⟨w.heap.size, 0, none⟩))) (w.alloc (.cells cs T)) := by
    unfold execOp
    simp only [ho, Instr.alloc, Sem.run_bind, hz w, Result.andThen_ok, Sem.run_pure, run_newVar]
  unfold Oper.wp
  rw [hrun]
  exact hK _ _ (h _ _ (Nat.le_refl _) (new_block _ _) (low_new _ _))
theorem l_box {T : TypeId} {x : Operand} {cs : Array Value} (hg : o.guard = none) (ho : o.op = .box T x) (hx : a.eval x = .agg cs)
    (h : ∀ g w', w.heap.size ≤ g → w'.heap[g]? = some (.cells cs T) → Low w w' → wpList P ops Q rest (a.put o.dst (.pointer (some ⟨g, 0, none⟩))) w') : wpList P ops Q (o :: rest) a w := by
  refine wpList_plain hg fun K hK => ?_
  have hrun : (execOp a.eval o).run P w = .ok (.value (.pointer (some ⟨w.heap.size, 0, none⟩))) (w.alloc (.cells cs T)) := by
    unfold execOp
    simp only [ho, hx, Instr.box, Sem.run_bind, Result.andThen_ok, Sem.run_pure, run_newVar]
  unfold Oper.wp
  rw [hrun]
  exact hK _ _ (h _ _ (Nat.le_refl _) (new_block _ _) (low_new _ _))
theorem upd_cell {g j : Nat} {v : Value} (w : World) : Upd g w (w.setCell ⟨g, j, none⟩ v) :=
  ⟨rfl, rfl, rfl, by simp [World.setCell], fun k hk => Below.heap_setCell _ _ _ _ hk⟩
theorem set_block {w : World} {g : Nat} {t : TypeId} {cs : Array Value} (h : w.heap[g]? = some (.cells cs t)) (i : Nat) (u : Value) : (w.setCell ⟨g, i, none⟩ u).heap[g]? = some (.cells (cs.setIfInBounds i u) t) := by
  simp [World.setCell, Array.getElem?_modify, h]
theorem run_store1 {T : TypeId} (hi : (P.info? T).map (·.size) = some 1) {g j : Nat} {v u : Value} (h1 : v.oneCell' = true) {w : World} (hc : w.cell? ⟨g, j, none⟩ = some u) (hf : w.frozen? ⟨g, j, none⟩ = false) : (storeVar T ⟨g, j, none⟩ v).run P w = .ok () (w.setCell ⟨g, j, none⟩ v) := by
  cases hq : P.info? T with
  | none => simp [hq] at hi
  | some i =>
    simp [hq] at hi
    cases v <;> simp [Value.oneCell'] at h1 <;> simp [storeVar, sizeOf, typeInfo, hq, hi, Value.cells, storeCells, store, Sem.run, hc, hf, Sem.run_bind, Addr.add_mid]
theorem l_cell {T : TypeId} {x y : Operand} {g j : Nat} {t : TypeId} {cs : Array Value} {v : Value} (hg : o.guard = none) (ho : o.op = .store T x y) (hd : o.dst = none) (hi : (P.info? T).map (·.size) = some 1)
    (hx : a.eval x = .pointer (some ⟨g, j, none⟩)) (hy : a.eval y = v) (hv : v.oneCell' = true) (hb : w.heap[g]? = some (.cells cs t)) (hj : j < cs.size)
    (h : ∀ w', w'.heap[g]? = some (.cells (cs.setIfInBounds j v) t) → Upd g w w' → wpList P ops Q rest a w') : wpList P ops Q (o :: rest) a w := by
  refine wpList_plain hg fun K hK => ?_
  have hrun : (execOp a.eval o).run P w = .ok .skip (w.setCell ⟨g, j, none⟩ v) := by
    unfold execOp
    simp only [ho, hx, hy, Instr.storeAt, Instr.sureAddr, Sem.run_bind, Result.andThen_ok, Sem.run_pure, run_store1 hi hv ((cells_at hb j).trans (Array.getElem?_eq_getElem hj)) (thawed hb j)]
  unfold Oper.wp
  rw [hrun]
  show K (a.put o.dst undef) _
  rw [hd]
  exact hK _ _ (h _ (set_block hb j v) (upd_cell w))
theorem upd_row {g : Nat} {cs : Array Value} (w : World) : Upd g w (w.setRow g cs) :=
  ⟨rfl, rfl, rfl, by simp [World.setRow], fun k hk => by simp [World.setRow, Array.getElem?_modify, Ne.symm hk]⟩
theorem l_row {T t : TypeId} {x y : Operand} {g : Nat} {old cs : Array Value} (hg : o.guard = none) (ho : o.op = .store T x y) (hd : o.dst = none) (hi : (P.info? T).map (·.size) = some cs.size)
    (hx : a.eval x = .pointer (some ⟨g, 0, none⟩)) (hy : a.eval y = .agg cs) (h1 : cs.all (·.oneCell') = true) (hb : w.heap[g]? = some (.cells old t)) (hs : old.size = cs.size)
    (h : ∀ w', w'.heap[g]? = some (.cells cs t) → Upd g w w' → wpList P ops Q rest a w') : wpList P ops Q (o :: rest) a w := by
  refine wpList_plain hg fun K hK => ?_
  have hrun : (execOp a.eval o).run P w = .ok .skip (w.setRow g cs) := by
    unfold execOp
    simp only [ho, hx, hy, Instr.storeAt, Instr.sureAddr, Sem.run_bind, Result.andThen_ok, Sem.run_pure, run_storeVar_row w g t T old cs hb hi hs h1]
  unfold Oper.wp
  rw [hrun]
  show K (a.put o.dst undef) _
  rw [hd]
  exact hK _ _ (h _ (by simp [World.setRow, Array.getElem?_modify, hb]) (upd_row w))
theorem l_end (h : Q .normal a w) : wpList P ops Q [] a w := h
theorem e_then {K : Act → World → Prop} (h : K a w) : Exit.then K Q .normal a w := h
theorem e_in {id : Nat} (h : Q .normal a w) : Exit.inBlock id Q .normal a w := h
theorem r_tmp {fn : Func} {t : Nat} {v : Value} {R : Ending → World → Prop} (hr : fn.results = #[.tmp t]) (hd : a.defers = []) (ht : At a t v) (hR : R (.returned v) w) : bodyPost P fn R .ret a w :=
  ⟨hd, v, by unfold At at ht; simp [results, hr, ht], hR⟩
theorem r_cell {fn : Func} {t : Nat} {ty T : TypeId} {g : Nat} {cs : Array Value} {d : TypeDesc} {R : Ending → World → Prop} (hr : fn.results = #[.cell t ty]) (hdf : a.defers = []) (ht : At a t (.pointer (some ⟨g, 0, none⟩))) (hb : w.heap[g]? = some (.cells cs T))
    (hu : P.underlying ty = some d) (hd : (match d with | .struct _ | .array _ _ => true | _ => false) = true) (hi : (P.info? ty).map (·.size) = some cs.size) (hR : R (.returned (.agg cs)) w) : bodyPost P fn R .ret a w :=
  ⟨hdf, .agg cs, by
    unfold At at ht
    have hp' : a.tmps[t]?.getD undef = .pointer (some ⟨g, 0, none⟩) := by simp [ht]
    simp [results, hr, hp', asAddr, run_loadVar_row w g T ty cs (0, 0) d hb hu hd hi], hR⟩
end
end Go.Proofs.YtnhchnlgleokoaaDoor.Q

namespace Go.Proofs.YtnhchnlgleokoaaDoor.Q
open Go.RowKit
section
variable {a : Act} {N t : Nat} {v : Value}
theorem At.n1 {d0 : Nat} {u0 : Value} (h : At a t v) (h0 : Nat.beq d0 t = false := by rfl) : At (a.put (some d0) u0) t v := (h.ne h0)
theorem At.n2 {d0 d1 : Nat} {u0 u1 : Value} (h : At a t v) (h0 : Nat.beq d0 t = false := by rfl) (h1 : Nat.beq d1 t = false := by rfl) : At ((a.put (some d0) u0).put (some d1) u1) t v := ((h.ne h0).ne h1)
theorem Fr.p2 {d0 d1 : Option Nat} {u0 u1 : Value} (h : Fr N a) : Fr N ((a.put d0 u0).put d1 u1) := h.put.put
theorem At.n3 {d0 d1 d2 : Nat} {u0 u1 u2 : Value} (h : At a t v) (h0 : Nat.beq d0 t = false := by rfl) (h1 : Nat.beq d1 t = false := by rfl) (h2 : Nat.beq d2 t = false := by rfl) : At (((a.put (some d0) u0).put (some d1) u1).put (some d2) u2) t v := (((h.ne h0).ne h1).ne h2)
theorem Fr.p3 {d0 d1 d2 : Option Nat} {u0 u1 u2 : Value} (h : Fr N a) : Fr N (((a.put d0 u0).put d1 u1).put d2 u2) := h.put.put.put
theorem At.n4 {d0 d1 d2 d3 : Nat} {u0 u1 u2 u3 : Value} (h : At a t v) (h0 : Nat.beq d0 t = false := by rfl) (h1 : Nat.beq d1 t = false := by rfl) (h2 : Nat.beq d2 t = false := by rfl) (h3 : Nat.beq d3 t = false := by rfl) : At ((((a.put (some d0) u0).put (some d1) u1).put (some d2) u2).put (some d3) u3) t v := ((((h.ne h0).ne h1).ne h2).ne h3)
theorem Fr.p4 {d0 d1 d2 d3 : Option Nat} {u0 u1 u2 u3 : Value} (h : Fr N a) : Fr N ((((a.put d0 u0).put d1 u1).put d2 u2).put d3 u3) := h.put.put.put.put
theorem At.n5 {d0 d1 d2 d3 d4 : Nat} {u0 u1 u2 u3 u4 : Value} (h : At a t v) (h0 : Nat.beq d0 t = false := by rfl) (h1 : Nat.beq d1 t = false := by rfl) (h2 : Nat.beq d2 t = false := by rfl) (h3 : Nat.beq d3 t = false := by rfl) (h4 : Nat.beq d4 t = false := by rfl) : At (((((a.put (some d0) u0).put (some d1) u1).put (some d2) u2).put (some d3) u3).put (some d4) u4) t v := (((((h.ne h0).ne h1).ne h2).ne h3).ne h4)
theorem Fr.p5 {d0 d1 d2 d3 d4 : Option Nat} {u0 u1 u2 u3 u4 : Value} (h : Fr N a) : Fr N (((((a.put d0 u0).put d1 u1).put d2 u2).put d3 u3).put d4 u4) := h.put.put.put.put.put
theorem At.n6 {d0 d1 d2 d3 d4 d5 : Nat} {u0 u1 u2 u3 u4 u5 : Value} (h : At a t v) (h0 : Nat.beq d0 t = false := by rfl) (h1 : Nat.beq d1 t = false := by rfl) (h2 : Nat.beq d2 t = false := by rfl) (h3 : Nat.beq d3 t = false := by rfl) (h4 : Nat.beq d4 t = false := by rfl) (h5 : Nat.beq d5 t = false := by rfl) : At ((((((a.put (some d0) u0).put (some d1) u1).put (some d2) u2).put (some d3) u3).put (some d4) u4).put (some d5) u5) t v := ((((((h.ne h0).ne h1).ne h2).ne h3).ne h4).ne h5)
theorem Fr.p6 {d0 d1 d2 d3 d4 d5 : Option Nat} {u0 u1 u2 u3 u4 u5 : Value} (h : Fr N a) : Fr N ((((((a.put d0 u0).put d1 u1).put d2 u2).put d3 u3).put d4 u4).put d5 u5) := h.put.put.put.put.put.put
theorem At.n7 {d0 d1 d2 d3 d4 d5 d6 : Nat} {u0 u1 u2 u3 u4 u5 u6 : Value} (h : At a t v) (h0 : Nat.beq d0 t = false := by rfl) (h1 : Nat.beq d1 t = false := by rfl) (h2 : Nat.beq d2 t = false := by rfl) (h3 : Nat.beq d3 t = false := by rfl) (h4 : Nat.beq d4 t = false := by rfl) (h5 : Nat.beq d5 t = false := by rfl) (h6 : Nat.beq d6 t = false := by rfl) : At (((((((a.put (some d0) u0).put (some d1) u1).put (some d2) u2).put (some d3) u3).put (some d4) u4).put (some d5) u5).put (some d6) u6) t v := (((((((h.ne h0).ne h1).ne h2).ne h3).ne h4).ne h5).ne h6)
theorem Fr.p7 {d0 d1 d2 d3 d4 d5 d6 : Option Nat} {u0 u1 u2 u3 u4 u5 u6 : Value} (h : Fr N a) : Fr N (((((((a.put d0 u0).put d1 u1).put d2 u2).put d3 u3).put d4 u4).put d5 u5).put d6 u6) := h.put.put.put.put.put.put.put
theorem At.n8 {d0 d1 d2 d3 d4 d5 d6 d7 : Nat} {u0 u1 u2 u3 u4 u5 u6 u7 : Value} (h : At a t v) (h0 : Nat.beq d0 t = false := by rfl) (h1 : Nat.beq d1 t = false := by rfl) (h2 : Nat.beq d2 t = false := by rfl) (h3 : Nat.beq d3 t = false := by rfl) (h4 : Nat.beq d4 t = false := by rfl) (h5 : Nat.beq d5 t = false := by rfl) (h6 : Nat.beq d6 t = false := by rfl) (h7 : Nat.beq d7 t = false := by rfl) : At ((((((((a.put (some d0) u0).put (some d1) u1).put (some d2) u2).put (some d3) u3).put (some d4) u4).put (some d5) u5).put (some d6) u6).put (some d7) u7) t v := ((((((((h.ne h0).ne h1).ne h2).ne h3).ne h4).ne h5).ne h6).ne h7)
theorem Fr.p8 {d0 d1 d2 d3 d4 d5 d6 d7 : Option Nat} {u0 u1 u2 u3 u4 u5 u6 u7 : Value} (h : Fr N a) : Fr N ((((((((a.put d0 u0).put d1 u1).put d2 u2).put d3 u3).put d4 u4).put d5 u5).put d6 u6).put d7 u7) := h.put.put.put.put.put.put.put.put
theorem At.n9 {d0 d1 d2 d3 d4 d5 d6 d7 d8 : Nat} {u0 u1 u2 u3 u4 u5 u6 u7 u8 : Value} (h : At a t v) (h0 : Nat.beq d0 t = false := by rfl) (h1 : Nat.beq d1 t = false := by rfl) (h2 : Nat.beq d2 t = false := by rfl) (h3 : Nat.beq d3 t = false := by rfl) (h4 : Nat.beq d4 t = false := by rfl) (h5 : Nat.beq d5 t = false := by rfl) (h6 : Nat.beq d6 t = false := by rfl) (h7 : Nat.beq d7 t = false := by rfl) (h8 : Nat.beq d8 t = false := by rfl) : At (((((((((a.put (some d0) u0).put (some d1) u1).put (some d2) u2).put (some d3) u3).put (some d4) u4).put (some d5) u5).put (some d6) u6).put (some d7) u7).put (some d8) u8) t v := (((((((((h.ne h0).ne h1).ne h2).ne h3).ne h4).ne h5).ne h6).ne h7).ne h8)
theorem Fr.p9 {d0 d1 d2 d3 d4 d5 d6 d7 d8 : Option Nat} {u0 u1 u2 u3 u4 u5 u6 u7 u8 : Value} (h : Fr N a) : Fr N (((((((((a.put d0 u0).put d1 u1).put d2 u2).put d3 u3).put d4 u4).put d5 u5).put d6 u6).put d7 u7).put d8 u8) := h.put.put.put.put.put.put.put.put.put
theorem At.n10 {d0 d1 d2 d3 d4 d5 d6 d7 d8 d9 : Nat} {u0 u1 u2 u3 u4 u5 u6 u7 u8 u9 : Value} (h : At a t v) (h0 : Nat.beq d0 t = false := by rfl) (h1 : Nat.beq d1 t = false := by rfl) (h2 : Nat.beq d2 t = false := by rfl) (h3 : Nat.beq d3 t = false := by rfl) (h4 : Nat.beq d4 t = false := by rfl) (h5 : Nat.beq d5 t = false := by rfl) (h6 : Nat.beq d6 t = false := by rfl) (h7 : Nat.beq d7 t = false := by rfl) (h8 : Nat.beq d8 t = false := by rfl) (h9 : Nat.beq d9 t = false := by rfl) : At ((((((((((a.put (some d0) u0).put (some d1) u1).put (some d2) u2).put (some d3) u3).put (some d4) u4).put (some d5) u5).put (some d6) u6).put (some d7) u7).put (some d8) u8).put (some d9) u9) t v := ((((((((((h.ne h0).ne h1).ne h2).ne h3).ne h4).ne h5).ne h6).ne h7).ne h8).ne h9)
theorem Fr.p10 {d0 d1 d2 d3 d4 d5 d6 d7 d8 d9 : Option Nat} {u0 u1 u2 u3 u4 u5 u6 u7 u8 u9 : Value} (h : Fr N a) : Fr N ((((((((((a.put d0 u0).put d1 u1).put d2 u2).put d3 u3).put d4 u4).put d5 u5).put d6 u6).put d7 u7).put d8 u8).put d9 u9) := h.put.put.put.put.put.put.put.put.put.put
theorem At.n11 {d0 d1 d2 d3 d4 d5 d6 d7 d8 d9 d10 : Nat} {u0 u1 u2 u3 u4 u5 u6 u7 u8 u9 u10 : Value} (h : At a t v) (h0 : Nat.beq d0 t = false := by rfl) (h1 : Nat.beq d1 t = false := by rfl) (h2 : Nat.beq d2 t = false := by rfl) (h3 : Nat.beq d3 t = false := by rfl) (h4 : Nat.beq d4 t = false := by rfl) (h5 : Nat.beq d5 t = false := by rfl) (h6 : Nat.beq d6 t = false := by rfl) (h7 : Nat.beq d7 t = false := by rfl) (h8 : Nat.beq d8 t = false := by rfl) (h9 : Nat.beq d9 t = false := by rfl) (h10 : Nat.beq d10 t = false := by rfl) : At (((((((((((a.put (some d0) u0).put (some d1) u1).put (some d2) u2).put (some d3) u3).put (some d4) u4).put (some d5) u5).put (some d6) u6).put (some d7) u7).put (some d8) u8).put (some d9) u9).put (some d10) u10) t v := (((((((((((h.ne h0).ne h1).ne h2).ne h3).ne h4).ne h5).ne h6).ne h7).ne h8).ne h9).ne h10)
theorem Fr.p11 {d0 d1 d2 d3 d4 d5 d6 d7 d8 d9 d10 : Option Nat} {u0 u1 u2 u3 u4 u5 u6 u7 u8 u9 u10 : Value} (h : Fr N a) : Fr N (((((((((((a.put d0 u0).put d1 u1).put d2 u2).put d3 u3).put d4 u4).put d5 u5).put d6 u6).put d7 u7).put d8 u8).put d9 u9).put d10 u10) := h.put.put.put.put.put.put.put.put.put.put.put
theorem At.n12 {d0 d1 d2 d3 d4 d5 d6 d7 d8 d9 d10 d11 : Nat} {u0 u1 u2 u3 u4 u5 u6 u7 u8 u9 u10 u11 : Value} (h : At a t v) (h0 : Nat.beq d0 t = false := by rfl) (h1 : Nat.beq d1 t = false := by rfl) (h2 : Nat.beq d2 t = false := by rfl) (h3 : Nat.beq d3 t = false := by rfl) (h4 : Nat.beq d4 t = false := by rfl) (h5 : Nat.beq d5 t = false := by rfl) (h6 : Nat.beq d6 t = false := by rfl) (h7 : Nat.beq d7 t = false := by rfl) (h8 : Nat.beq d8 t = false := by rfl) (h9 : Nat.beq d9 t = false := by rfl) (h10 : Nat.beq d10 t = false := by rfl) (h11 : Nat.beq d11 t = false := by rfl) : At ((((((((((((a.put (some d0) u0).put (some d1) u1).put (some d2) u2).put (some d3) u3).put (some d4) u4).put (some d5) u5).put (some d6) u6).put (some d7) u7).put (some d8) u8).put (some d9) u9).put (some d10) u10).put (some d11) u11) t v := ((((((((((((h.ne h0).ne h1).ne h2).ne h3).ne h4).ne h5).ne h6).ne h7).ne h8).ne h9).ne h10).ne h11)
theorem Fr.p12 {d0 d1 d2 d3 d4 d5 d6 d7 d8 d9 d10 d11 : Option Nat} {u0 u1 u2 u3 u4 u5 u6 u7 u8 u9 u10 u11 : Value} (h : Fr N a) : Fr N ((((((((((((a.put d0 u0).put d1 u1).put d2 u2).put d3 u3).put d4 u4).put d5 u5).put d6 u6).put d7 u7).put d8 u8).put d9 u9).put d10 u10).put d11 u11) := h.put.put.put.put.put.put.put.put.put.put.put.put
theorem At.n13 {d0 d1 d2 d3 d4 d5 d6 d7 d8 d9 d10 d11 d12 : Nat} {u0 u1 u2 u3 u4 u5 u6 u7 u8 u9 u10 u11 u12 : Value} (h : At a t v) (h0 : Nat.beq d0 t = false := by rfl) (h1 : Nat.beq d1 t = false := by rfl) (h2 : Nat.beq d2 t = false := by rfl) (h3 : Nat.beq d3 t = false := by rfl) (h4 : Nat.beq d4 t = false := by rfl) (h5 : Nat.beq d5 t = false := by rfl) (h6 : Nat.beq d6 t = false := by rfl) (h7 : Nat.beq d7 t = false := by rfl) (h8 : Nat.beq d8 t = false := by rfl) (h9 : Nat.beq d9 t = false := by rfl) (h10 : Nat.beq d10 t = false := by rfl) (h11 : Nat.beq d11 t = false := by rfl) (h12 : Nat.beq d12 t = false := by rfl) : At (((((((((((((a.put (some d0) u0).put (some d1) u1).put (some d2) u2).put (some d3) u3).put (some d4) u4).put (some d5) u5).put (some d6) u6).put (some d7) u7).put (some d8) u8).put (some d9) u9).put (some d10) u10).put (some d11) u11).put (some d12) u12) t v := (((((((((((((h.ne h0).ne h1).ne h2).ne h3).ne h4).ne h5).ne h6).ne h7).ne h8).ne h9).ne h10).ne h11).ne h12)
theorem Fr.p13 {d0 d1 d2 d3 d4 d5 d6 d7 d8 d9 d10 d11 d12 : Option Nat} {u0 u1 u2 u3 u4 u5 u6 u7 u8 u9 u10 u11 u12 : Value} (h : Fr N a) : Fr N (((((((((((((a.put d0 u0).put d1 u1).put d2 u2).put d3 u3).put d4 u4).put d5 u5).put d6 u6).put d7 u7).put d8 u8).put d9 u9).put d10 u10).put d11 u11).put d12 u12) := h.put.put.put.put.put.put.put.put.put.put.put.put.put
theorem At.n14 {d0 d1 d2 d3 d4 d5 d6 d7 d8 d9 d10 d11 d12 d13 : Nat} {u0 u1 u2 u3 u4 u5 u6 u7 u8 u9 u10 u11 u12 u13 : Value} (h : At a t v) (h0 : Nat.beq d0 t = false := by rfl) (h1 : Nat.beq d1 t = false := by rfl) (h2 : Nat.beq d2 t = false := by rfl) (h3 : Nat.beq d3 t = false := by rfl) (h4 : Nat.beq d4 t = false := by rfl) (h5 : Nat.beq d5 t = false := by rfl) (h6 : Nat.beq d6 t = false := by rfl) (h7 : Nat.beq d7 t = false := by rfl) (h8 : Nat.beq d8 t = false := by rfl) (h9 : Nat.beq d9 t = false := by rfl) (h10 : Nat.beq d10 t = false := by rfl) (h11 : Nat.beq d11 t = false := by rfl) (h12 : Nat.beq d12 t = false := by rfl) (h13 : Nat.beq d13 t = false := by rfl) : At ((((((((((((((a.put (some d0) u0).put (some d1) u1).put (some d2) u2).put (some d3) u3).put (some d4) u4).put (some d5) u5).put (some d6) u6).put (some d7) u7).put (some d8) u8).put (some d9) u9).put (some d10) u10).put (some d11) u11).put (some d12) u12).put (some d13) u13) t v := ((((((((((((((h.ne h0).ne h1).ne h2).ne h3).ne h4).ne h5).ne h6).ne h7).ne h8).ne h9).ne h10).ne h11).ne h12).ne h13)
theorem Fr.p14 {d0 d1 d2 d3 d4 d5 d6 d7 d8 d9 d10 d11 d12 d13 : Option Nat} {u0 u1 u2 u3 u4 u5 u6 u7 u8 u9 u10 u11 u12 u13 : Value} (h : Fr N a) : Fr N ((((((((((((((a.put d0 u0).put d1 u1).put d2 u2).put d3 u3).put d4 u4).put d5 u5).put d6 u6).put d7 u7).put d8 u8).put d9 u9).put d10 u10).put d11 u11).put d12 u12).put d13 u13) := h.put.put.put.put.put.put.put.put.put.put.put.put.put.put
theorem At.n15 {d0 d1 d2 d3 d4 d5 d6 d7 d8 d9 d10 d11 d12 d13 d14 : Nat} {u0 u1 u2 u3 u4 u5 u6 u7 u8 u9 u10 u11 u12 u13 u14 : Value} (h : At a t v) (h0 : Nat.beq d0 t = false := by rfl) (h1 : Nat.beq d1 t = false := by rfl) (h2 : Nat.beq d2 t = false := by rfl) (h3 : Nat.beq d3 t = false := by rfl) (h4 : Nat.beq d4 t = false := by rfl) (h5 : Nat.beq d5 t = false := by rfl) (h6 : Nat.beq d6 t = false := by rfl) (h7 : Nat.beq d7 t = false := by rfl) (h8 : Nat.beq d8 t = false := by rfl) (h9 : Nat.beq d9 t = false := by rfl) (h10 : Nat.beq d10 t = false := by rfl) (h11 : Nat.beq d11 t = false := by rfl) (h12 : Nat.beq d12 t = false := by rfl) (h13 : Nat.beq d13 t = false := by rfl) (h14 : Nat.beq d14 t = false := by rfl) : At (((((((((((((((a.put (some d0) u0).put (some d1) u1).put (some d2) u2).put (some d3) u3).put (some d4) u4).put (some d5) u5).put (some d6) u6).put (some d7) u7).put (some d8) u8).put (some d9) u9).put (some d10) u10).put (some d11) u11).put (some d12) u12).put (some d13) u13).put (some d14) u14) t v := (((((((((((((((h.ne h0).ne h1).ne h2).ne h3).ne h4).ne h5).ne h6).ne h7).ne h8).ne h9).ne h10).ne h11).ne h12).ne h13).ne h14)
theorem Fr.p15 {d0 d1 d2 d3 d4 d5 d6 d7 d8 d9 d10 d11 d12 d13 d14 : Option Nat} {u0 u1 u2 u3 u4 u5 u6 u7 u8 u9 u10 u11 u12 u13 u14 : Value} (h : Fr N a) : Fr N (((((((((((((((a.put d0 u0).put d1 u1).put d2 u2).put d3 u3).put d4 u4).put d5 u5).put d6 u6).put d7 u7).put d8 u8).put d9 u9).put d10 u10).put d11 u11).put d12 u12).put d13 u13).put d14 u14) := h.put.put.put.put.put.put.put.put.put.put.put.put.put.put.put
theorem At.n16 {d0 d1 d2 d3 d4 d5 d6 d7 d8 d9 d10 d11 d12 d13 d14 d15 : Nat} {u0 u1 u2 u3 u4 u5 u6 u7 u8 u9 u10 u11 u12 u13 u14 u15 : Value} (h : At a t v) (h0 : Nat.beq d0 t = false := by rfl) (h1 : Nat.beq d1 t = false := by rfl) (h2 : Nat.beq d2 t = false := by rfl) (h3 : Nat.beq d3 t = false := by rfl) (h4 : Nat.beq d4 t = false := by rfl) (h5 : Nat.beq d5 t = false := by rfl) (h6 : Nat.beq d6 t = false := by rfl) (h7 : Nat.beq d7 t = false := by rfl) (h8 : Nat.beq d8 t = false := by rfl) (h9 : Nat.beq d9 t = false := by rfl) (h10 : Nat.beq d10 t = false := by rfl) (h11 : Nat.beq d11 t = false := by rfl) (h12 : Nat.beq d12 t = false := by rfl) (h13 : Nat.beq d13 t = false := by rfl) (h14 : Nat.beq d14 t = false := by rfl) (h15 : Nat.beq d15 t = false := by rfl) : At ((((((((((((((((a.put (some d0) u0).put (some d1) u1).put (some d2) u2).put (some d3) u3).put (some d4) u4).put (some d5) u5).put (some d6) u6).put (some d7) u7).put (some d8) u8).put (some d9) u9).put (some d10) u10).put (some d11) u11).put (some d12) u12).put (some d13) u13).put (some d14) u14).put (some d15) u15) t v := ((((((((((((((((h.ne h0).ne h1).ne h2).ne h3).ne h4).ne h5).ne h6).ne h7).ne h8).ne h9).ne h10).ne h11).ne h12).ne h13).ne h14).ne h15)
theorem Fr.p16 {d0 d1 d2 d3 d4 d5 d6 d7 d8 d9 d10 d11 d12 d13 d14 d15 : Option Nat} {u0 u1 u2 u3 u4 u5 u6 u7 u8 u9 u10 u11 u12 u13 u14 u15 : Value} (h : Fr N a) : Fr N ((((((((((((((((a.put d0 u0).put d1 u1).put d2 u2).put d3 u3).put d4 u4).put d5 u5).put d6 u6).put d7 u7).put d8 u8).put d9 u9).put d10 u10).put d11 u11).put d12 u12).put d13 u13).put d14 u14).put d15 u15) := h.put.put.put.put.put.put.put.put.put.put.put.put.put.put.put.put
end
end Go.Proofs.YtnhchnlgleokoaaDoor.Q
end
/-! Q3 -/
section
namespace Go.Proofs.YtnhchnlgleokoaaDoor.Q
open Go.RowKit
section
variable {P : Program} {Q : Exit → Act → World → Prop} {a : Act} {w : World} {o : Oper} {ops : Array Oper} {rest : List Oper} {K : Act → Prop} {C : World → Prop}
theorem i64_is {x z : Int} (h : x = z) (h0 : -9223372036854775808 ≤ z) (h1 : z ≤ 9223372036854775807) : IntKind.i64.wrap x = z := by
  rw [h, IntKind.wrap_i64]
  omega
theorem e_fresh {N : Nat} {e : Exit} (z : Fr N a) (h : ∀ a', Fr N a' → (∀ t v, At a t v → At a' t v) → Q e a' w) : Q e a w := h a z fun _ _ h => h
theorem l_fresh {N : Nat} {l : List Oper} (z : Fr N a) (h : ∀ a', Fr N a' → (∀ t v, At a t v → At a' t v) → wpList P ops Q l a' w) : wpList P ops Q l a w := h a z fun _ _ h => h
theorem q_fresh {N : Nat} {l : List Oper} (z : Fr N a) (h : ∀ a', Fr N a' → (∀ t v, At a t v → At a' t v) → qch P C K l a') : qch P C K l a := h a z fun _ _ h => h
theorem g_fresh {N : Nat} {l : List Oper} (z : Fr N a) (h : ∀ a', Fr N a' → (∀ t v, At a t v → At a' t v) → wpQuiet P ops C K l a') : wpQuiet P ops C K l a := h a z fun _ _ h => h
theorem x_then {K : Act → World → Prop} {id : Nat} (h : Q (.exit id) a w) : Exit.then K Q (.exit id) a w := h
theorem ret_then {K : Act → World → Prop} (h : Q .ret a w) : Exit.then K Q .ret a w := h
theorem ret_in {id : Nat} (h : Q .ret a w) : Exit.inBlock id Q .ret a w := h
theorem qs (h : o.quiet P a C (qch P C K rest)) : qch P C K (o :: rest) a := h
theorem e_id {e : Exit} (h : Q e a w) : Q e a w := h
theorem qz (h : K a) : qch P C K [] a := h
theorem args1 {x : Operand} {u : Value} {args : Array Operand} (h : args = #[x]) (hx : a.eval x = u) : args.map a.eval = #[u] := by subst h; simp [hx]
theorem args2 {x y : Operand} {u v : Value} {args : Array Operand} (h : args = #[x, y]) (hx : a.eval x = u) (hy : a.eval y = v) : args.map a.eval = #[u, v] := by subst h; simp [hx, hy]
theorem args3 {x y z : Operand} {u v t : Value} {args : Array Operand} (h : args = #[x, y, z]) (hx : a.eval x = u) (hy : a.eval y = v) (hz : a.eval z = t) : args.map a.eval = #[u, v, t] := by subst h; simp [hx, hy, hz]
theorem q_len {c : Call} {T : TypeId} {x : Operand} {s : ByteArray} (ho : o.op = .call c) (hc : c = { callee := .builtin .len, args := #[x], argTypes := #[T] }) (hT : P.underlying T = some .string) (hx : a.eval x = .string s) (hn : K (a.put o.dst (.int .i64 s.size))) : o.quiet P a C K :=
  q_val _ (fun w _ => by
    subst hc
    unfold execOp
    simp [ho, hx, resolve, invoke, builtin, Builtin.len_, Sem.run_bind, run_underlying hT w, goInt]) hn
def fldB (P : Program) (S : TypeId) (f i : Nat) : Bool :=
  match P.underlying S with
  | some (.struct fs) => (match fs[f]? with
    | some sf => sf.offset == i && ((P.info? sf.type).map (·.size)).getD 0 != 0
    | none => false)
  | _ => false
theorem q_fld {S : TypeId} {x : Operand} {f g : Nat} (i : Nat) (ho : o.op = .fieldAddr S x f) (hB : fldB P S f i = true) (hx : a.eval x = .pointer (some ⟨g, 0, none⟩)) (hn : K (a.put o.dst (.pointer (some ⟨g, i, none⟩)))) : o.quiet P a C K := by
  unfold fldB at hB
  split at hB
  · rename_i fs hS
    split at hB
    · rename_i sf hf
      simp only [Bool.and_eq_true, beq_iff_eq, bne_iff_ne] at hB
      obtain ⟨hi, hs⟩ := hB
      refine q_val _ (fun w _ => ?_) hn
      obtain ⟨n, hn'⟩ : ∃ n, (P.info? sf.type).map (·.size) = some n := by
        cases hq : P.info? sf.type with
        | none => simp [hq] at hs
        | some y => exact ⟨_, rfl⟩
      rw [hn'] at hs
      simp at hs
      unfold execOp
      simp [ho, hx, Instr.fieldAt, Instr.sureAddr, Sem.run_bind, run_underlying hS w, hf, fieldPlace, run_sizeOf1 hn' w, hs, hi, Addr.add]
      intro h0
      rw [h0]
    · cases hB
  · cases hB
end
end Go.Proofs.YtnhchnlgleokoaaDoor.Q
end
/-! Q4 -/
section
namespace Go.Proofs.YtnhchnlgleokoaaDoor.Q
open Go.RowKit
section
variable {P : Program} {Q : Exit → Act → World → Prop} {a : Act} {w : World} {o : Oper} {ops : Array Oper} {rest : List Oper} {K : Act → Prop} {C : World → Prop}
theorem q_gtr {T T' : TypeId} {x y : Operand} {k : IntKind} {m n : Int} (b : Bool) (ho : o.op = .binOp .gtr T x y T') (hx : a.eval x = .int k m) (hy : a.eval y = .int k n) (hb : decide (m > n) = b) (hn : K (a.put o.dst (.bool b))) : o.quiet P a C K :=
  q_val _ (fun w _ => by rw [run_bin ho hx hy, ← hb]; simp [binOp, Op.intCmp, Sem.run_pure]) hn
theorem q_leq {T T' : TypeId} {x y : Operand} {k : IntKind} {m n : Int} (b : Bool) (ho : o.op = .binOp .leq T x y T') (hx : a.eval x = .int k m) (hy : a.eval y = .int k n) (hb : decide (m ≤ n) = b) (hn : K (a.put o.dst (.bool b))) : o.quiet P a C K :=
  q_val _ (fun w _ => by rw [run_bin ho hx hy, ← hb]; simp [binOp, Op.intCmp, Sem.run_pure]) hn
theorem q_eql {T T' : TypeId} {x y : Operand} {k : IntKind} {m n : Int} (b : Bool) (ho : o.op = .binOp .eql T x y T') (hx : a.eval x = .int k m) (hy : a.eval y = .int k n) (hb : decide (m = n) = b) (hn : K (a.put o.dst (.bool b))) : o.quiet P a C K :=
  q_val _ (fun w _ => by rw [run_bin ho hx hy, ← hb]; simp [binOp, Op.intCmp, Sem.run_pure]; rfl) hn
theorem q_neq {T T' : TypeId} {x y : Operand} {k : IntKind} {m n : Int} (b : Bool) (ho : o.op = .binOp .neq T x y T') (hx : a.eval x = .int k m) (hy : a.eval y = .int k n) (hb : decide (m ≠ n) = b) (hn : K (a.put o.dst (.bool b))) : o.quiet P a C K :=
  q_val _ (fun w _ => by
    rw [run_bin ho hx hy, ← hb]
    have : (m != n) = decide (m ≠ n) := by rw [Bool.eq_iff_iff]; simp
    simp only [binOp, ne_eq, not_true_eq_false, if_false, Op.intCmp, this, Sem.run_bind, Sem.run_pure, Result.andThen_ok]) hn
theorem q_pick {c x y : Operand} {b : Bool} (v : Value) (ho : o.op = .pick c x y) (hc : a.eval c = .bool b) (hv : (if b then a.eval x else a.eval y) = v) (hn : K (a.put o.dst v)) : o.quiet P a C K :=
  q_val _ (fun w _ => by
    unfold execOp
    simp only [ho, hc, asBool, Sem.run_bind, Sem.run_pure, Result.andThen_ok, hv]) hn
def dstAt : List Oper → Nat → Option Tmp
  | [], _ => none
  | o :: _, 0 => o.dst
  | _ :: l, j + 1 => dstAt l j
theorem dstAt_eq : ∀ (l : List Oper) (j : Nat), (l.toArray[j]?).bind (·.dst) = dstAt l j
  | [], j => by simp [dstAt]
  | o :: l, 0 => by simp [dstAt]
  | o :: l, j + 1 => by
    have := dstAt_eq l j
    simp only [List.getElem?_toArray] at this ⊢
    rw [List.getElem?_cons_succ, this, dstAt]
theorem wanted_is {l : List Oper} {j d : Nat} {want b r : Bool} (hg : o.guard = some (j, want)) (hd : dstAt l j = some d) (h : At a d (.bool b)) (hr : (b == want) = r) : Region.wanted o (yielded l.toArray a.tmps) = r := by
  rw [← dstAt_eq] at hd
  unfold At at h
  unfold Region.wanted yielded
  rw [hg]
  simp only [hd]
  rw [← hr]
  cases b <;> cases want <;> simp [h]
theorem l_qg (hw : Region.wanted o (yielded ops a.tmps) = true) (h : o.quiet P a (fun W => W = w) (fun a' => wpList P ops Q rest a' w)) : wpList P ops Q (o :: rest) a w :=
  wpList_step fun K hK => by
    rw [if_pos hw]
    exact Oper.wp_of_quiet (C := fun W => W = w) rfl (fun a' w' hw hk => by subst hw; exact hK _ _ hk) h
theorem l_skip (hw : Region.wanted o (yielded ops a.tmps) = false) (h : wpList P ops Q rest (a.put o.dst undef) w) : wpList P ops Q (o :: rest) a w :=
  wpList_step fun K hK => by
    rw [if_neg (by rw [hw]; decide)]
    exact hK _ _ h
theorem l_callg {f : FuncId} {fn : Func} {c : Call} {args : Array Value} (R : Value → World → Prop) (hw : Region.wanted o (yielded ops a.tmps) = true) (ho : o.op = .call c) (hc : c.callee = .value (.func f)) (hf : P.funcs[f]? = some fn) (hn' : (fn.name == "runtime.NumGoroutine" || fn.body.isNone) = false)
    (ha : c.args.map a.eval = args) (hcall : Calls P f args w fun e w' => ∃ v, e = .returned v ∧ R v w') (h : ∀ v w', R v w' → wpList P ops Q rest (a.put o.dst v) w') : wpList P ops Q (o :: rest) a w := by
  refine wpList_step fun K hK => ?_
  rw [if_pos hw]
  have hrun : (execOp a.eval o).run P w = .ok (.enter f args) w := by
    rw [Bool.or_eq_false_iff] at hn'
    unfold execOp
    have hpr : (program : Sem Program).run P w = .ok P w := rfl
    simp only [ho, resolve, hc, ha, Act.eval, Deferred.ofValue, invoke, callFunc, Sem.run_bind, Sem.run_pure, Result.andThen_ok, hpr, hf, hn'.1, hn'.2, Array.append_empty, Array.empty_append]
    rfl
  unfold Oper.wp
  rw [hrun]
  exact hcall.mono fun e w' ⟨v, he, hR⟩ => by subst he; exact hK _ _ (h v w' hR)
theorem region_lowg {id : Nat} {W : World} {l : List Oper} (hm : P.follows .mixedOrders = true) (hB : Region.lexB .any l.toArray = true)
    (h : wpQuiet P l.toArray (Low W) (fun a' => ∀ w', Low W w' → Q .normal a' w') l a) : (Code.region id l.toArray true).wp P Q a W :=
  wp_region_quiet hm hB (low_drawn W) h
theorem gs (hg : o.guard = none) (h : o.quiet P a C (wpQuiet P ops C K rest)) : wpQuiet P ops C K (o :: rest) a := by
  unfold wpQuiet
  rw [if_pos (by simp [Region.wanted, hg])]
  exact h
theorem gsg (hw : Region.wanted o (yielded ops a.tmps) = true) (h : o.quiet P a C (wpQuiet P ops C K rest)) : wpQuiet P ops C K (o :: rest) a := by
  unfold wpQuiet
  rw [if_pos hw]
  exact h
theorem gsk (hw : Region.wanted o (yielded ops a.tmps) = false) (h : wpQuiet P ops C K rest (a.put o.dst undef)) : wpQuiet P ops C K (o :: rest) a := by
  unfold wpQuiet
  rw [if_neg (by rw [hw]; decide)]
  exact h
theorem gz (h : K a) : wpQuiet P ops C K [] a := h
theorem q_cutlo {T : TypeId} {x lo : Operand} {s : ByteArray} {j : Nat} (ho : o.op = .slice T x (some lo) none none) (hT : P.underlying T = some .string) (hx : a.eval x = .string s) (hl : a.eval lo = .int .i64 (j : Int)) (hj : j ≤ s.size) (hn : K (a.put o.dst (.string (s.extract j s.size)))) : o.quiet P a C K :=
  q_val _ (fun w _ => by
    have h1 : ((0 : Int) ≤ (j : Int) ∧ (j : Int) ≤ (s.size : Int)) := by omega
    unfold execOp
    simp [ho, hx, hl, Instr.sliceAt, Instr.slice, Instr.sliceBounds, Instr.sliceBound, asIntOf, Sem.run_bind, run_underlying hT w, h1, hj]) hn
theorem q_cut {T : TypeId} {x lo hi : Operand} {s : ByteArray} {j k : Nat} (ho : o.op = .slice T x (some lo) (some hi) none) (hT : P.underlying T = some .string) (hx : a.eval x = .string s) (hl : a.eval lo = .int .i64 (j : Int)) (hh : a.eval hi = .int .i64 (k : Int)) (hj : j ≤ k) (hk : k ≤ s.size) (hn : K (a.put o.dst (.string (s.extract j k)))) : o.quiet P a C K :=
  q_val _ (fun w _ => by
    unfold execOp
    simp [ho, hx, hl, hh, Instr.sliceAt, Instr.slice, Instr.sliceBounds, Instr.sliceBound, asIntOf, Sem.run_bind, run_underlying hT w, hj, hk]) hn
theorem q_cat {T T' : TypeId} {x y : Operand} {s t : ByteArray} (ho : o.op = .binOp .add T x y T') (hx : a.eval x = .string s) (hy : a.eval y = .string t) (hs : s.size + t.size ≤ 9223372036854775807) (hn : K (a.put o.dst (.string (s ++ t)))) : o.quiet P a C K :=
  q_val _ (fun w _ => by
    have h1 : ¬ (((s.size + t.size : Nat) : Int) > IntKind.i64.max) := by rw [show IntKind.i64.max = 9223372036854775807 from by decide]; omega
    unfold execOp
    simp only [ho, hx, hy, eqGuard, binOp, Op.stringOp, if_neg h1]
    rfl) hn
theorem q_strne {T T' : TypeId} {x y : Operand} {s t : ByteArray} (b : Bool) (ho : o.op = .binOp .neq T x y T') (hx : a.eval x = .string s) (hy : a.eval y = .string t) (hb : (!(s.toList == t.toList)) = b) (hn : K (a.put o.dst (.bool b))) : o.quiet P a C K :=
  q_val _ (fun w _ => by
    unfold execOp
    simp only [ho, hx, hy, eqGuard, binOp, Op.stringOp, hb]
    rfl) hn
theorem q_streq {T T' : TypeId} {x y : Operand} {s t : ByteArray} (b : Bool) (ho : o.op = .binOp .eql T x y T') (hx : a.eval x = .string s) (hy : a.eval y = .string t) (hb : (s.toList == t.toList) = b) (hn : K (a.put o.dst (.bool b))) : o.quiet P a C K :=
  q_val _ (fun w _ => by
    unfold execOp
    simp only [ho, hx, hy, eqGuard, binOp, Op.stringOp, hb]
    rfl) hn
end
end Go.Proofs.YtnhchnlgleokoaaDoor.Q
end
/-! Q5 -/
section
namespace Go.Proofs.YtnhchnlgleokoaaDoor.Q
open Go.RowKit
section
variable {P : Program} {Q : Exit → Act → World → Prop} {a : Act} {w : World}
theorem count_set (l : List Bool) (i : Nat) (h : l.getD i true = false) : (l.set i true).count false + 1 = l.count false := by
  induction l generalizing i with
  | nil => simp at h
  | cons x l ih =>
    cases i with
    | zero => simp at h; subst h; simp
    | succ i =>
      have := ih i (by simpa using h)
      simp only [List.set_cons_succ, List.count_cons]
      omega
theorem count_zero (l : List Bool) (h : l.count false = 0) (i : Nat) (hi : i < l.length) : l.getD i false = true := by
  have := List.count_eq_zero.1 h
  cases hb : l[i] with
  | true => simp [hi, List.getD_eq_getElem?_getD, hb]
  | false => exact absurd (hb ▸ List.getElem_mem hi) this
/-- the region, by a relation over what is listed -/
theorem region_inv {id : Nat} {W : World} {l : List Oper} (I : Array Bool → Act → World → Prop) (hm : P.follows .mixedOrders = true) (hB : (backB .any l.toArray && plainB l) = true)
    (h0 : I (Array.replicate l.length false) a { W with drawn := W.drawn + 1 })
    (step : ∀ (i : Nat) (o : Oper) (L : Array Bool) (a : Act) (w : World), l[i]? = some o → L.size = l.length → L.getD i true = false → (∀ e ∈ o.after, Region.binds .any e = true → L.getD e.on false = true) → I L a w → o.wp P a w (I (L.setIfInBounds i true)) Q ∨ (o.asks P a w ∧ LetsOut Q))
    (done : ∀ (L : Array Bool) (a : Act) (w : World), L.size = l.length → (∀ i, i < l.length → L.getD i false = true) → I L a w → Q .normal a w) : (Code.region id l.toArray true).wp P Q a W := by
  rw [Bool.and_eq_true] at hB
  refine wp_region_any hm ?_
  have key : ∀ (fuel : Nat) (L : Array Bool) (a : Act) (w : World), L.size = l.length → L.toList.count false = fuel → I L a w → wpAny P .any l.toArray Q fuel L a w := by
    intro fuel
    have nrd : ∀ (L : Array Bool), L.size = l.length → L.toList.count false ≠ 0 → Region.ready .any l.toArray L ≠ [] := by
      intro L hL hc hnil
      apply hc
      apply List.count_eq_zero.2
      intro hmem
      obtain ⟨i, hi, hf⟩ := List.getElem_of_mem hmem
      simp only [Array.length_toList] at hi
      refine some_ready (ops := l.toArray) (by simpa using hL) hB.1 i (by simpa [hL] using hi) ?_ hnil
      simp only [Array.getElem_toList] at hf
      simp [Array.getD_eq_getD_getElem?, hi, hf]
    induction fuel with
    | zero =>
      intro L a w hL hc hI
      have hall : ∀ i, i < l.length → L.getD i false = true := fun i hi => by
        have := count_zero L.toList hc i (by simpa [hL] using hi)
        simpa [Array.getD_eq_getD_getElem?, List.getD_eq_getElem?_getD] using this
      refine ⟨?_, done L a w hL hall hI⟩
      rw [List.eq_nil_iff_forall_not_mem]
      intro j hj
      obtain ⟨hju, o, ho, _⟩ := mem_ready.1 hj
      have hjl : j < l.length := by have := (Array.getElem?_eq_some_iff.1 ho).1; simpa using this
      have := hall j hjl
      rw [getD_both hju] at this
      cases this
    | succ fuel ih =>
      intro L a w hL hc hI
      refine ⟨fun h => absurd h (nrd L hL (by omega)), fun i hi => ?_⟩
      obtain ⟨hun, o, ho, hall⟩ := mem_ready.1 hi
      have hol : l[i]? = some o := by simpa using ho
      have hg : o.guard.isNone = true := List.all_eq_true.1 hB.2 o (List.mem_of_getElem? hol)
      unfold wpOp
      simp only [ho]
      rw [if_pos (wanted_plain hg)]
      refine (step i o L a w hol hL hun hall hI).imp (Oper.wp_mono (fun a' w' h => ih _ a' w' (by simpa using hL) ?_ h)) (fun h => h)
      have := count_set L.toList i (by simpa [Array.getD_eq_getD_getElem?, List.getD_eq_getElem?_getD] using hun)
      rw [Array.toList_setIfInBounds]
      omega
  have := key l.length (Array.replicate l.length false) a _ (by simp) (by simp) h0
  simpa using this
inductive Sp where
  | val (v : Value)
  | new (z : Array Value) (T : TypeId) (j : Nat) (x : Array Value)   -- a new block; the operation that fills it, and what with
  | put (k : Nat) (s : Nat)   -- the block of operation k is filled with what operation s yields
def Has (L : Array Bool) (i : Nat) : Prop := L.getD i false = true
/-- what is known of operation i, once it is listed -/
def Told (l : List Oper) (sp : List Sp) (W : World) (G : Nat → Nat) (L : Array Bool) (a : Act) (w : World) (i : Nat) : Prop :=
  match sp[i]?, (l[i]?).bind (·.dst) with
  | some (.val v), some d => At a d v
  | some (.new z T j x), some d => At a d (.pointer (some ⟨G i, 0, none⟩)) ∧ W.heap.size ≤ G i ∧ w.heap[G i]? = some (.cells (if L.getD j false = true then x else z) T)
  | _, _ => True
def dstOf (l : List Oper) (i : Nat) : Option Tmp := (l[i]?).bind (·.dst)
structure Inv (l : List Oper) (sp : List Sp) (N : Nat) (a0 : Act) (W : World) (L : Array Bool) (a : Act) (w : World) : Prop where
  fr : Fr N a
  low : Low W w
  keep : ∀ t v, (∀ i, dstOf l i ≠ some t) → At a0 t v → At a t v
  shut : ∀ j o, l[j]? = some o → Has L j → ∀ e ∈ o.after, Region.binds .any e = true → Has L e.on
  told : ∃ G : Nat → Nat, (∀ i, Has L i → Told l sp W G L a w i) ∧ (∀ i j, Has L i → Has L j → i ≠ j → (∃ z T m x, sp[i]? = some (.new z T m x)) → (∃ z T m x, sp[j]? = some (.new z T m x)) → G i ≠ G j)
theorem At.ne' {a : Act} {t d : Nat} {v u : Value} (h : At a t v) (hd : d ≠ t) : At (a.put (some d) u) t v := h.ne (by cases hb : Nat.beq d t with | false => rfl | true => exact absurd (Nat.eq_of_beq_eq_true hb) hd)
theorem has_set {L : Array Bool} {i j : Nat} (hi : i < L.size) : Has (L.setIfInBounds i true) j ↔ j = i ∨ Has L j := by
  unfold Has
  by_cases h : i = j
  · subst h
    simp [Array.getD_eq_getD_getElem?, hi]
  · rw [getD_set_ne false h]
    constructor
    · exact .inr
    · rintro (e | e)
      · exact absurd e.symm h
      · exact e
def depB (o : Oper) (j : Nat) : Bool := o.after.toList.any fun e => Region.binds .any e && Nat.beq e.on j
def notDst (l : List Oper) (t : Nat) : Bool := l.all fun o => match o.dst with | some d => !Nat.beq d t | none => true
def spAt : List Sp → Nat → Option Sp
  | [], _ => none
  | s :: _, 0 => some s
  | _ :: l, j + 1 => spAt l j
def distB (l : List Oper) : Bool := (List.range l.length).all fun i => (List.range l.length).all fun j => Nat.beq i j || (match dstAt l i, dstAt l j with | some d, some d' => !Nat.beq d d' | _, _ => true)
theorem dstOf_eq (l : List Oper) (j : Nat) : dstOf l j = dstAt l j := by rw [← dstAt_eq]; simp [dstOf]
theorem dep_spec {o : Oper} {j : Nat} (h : depB o j = true) : ∃ e ∈ o.after, Region.binds .any e = true ∧ e.on = j := by
  obtain ⟨e, he, hb⟩ := List.any_eq_true.1 h
  rw [Bool.and_eq_true] at hb
  exact ⟨e, Array.mem_toList_iff.1 he, hb.1, Nat.eq_of_beq_eq_true hb.2⟩
theorem dist_spec {l : List Oper} (h : distB l = true) (i j : Nat) (d : Nat) (hi : dstOf l i = some d) (hj : dstOf l j = some d) : i = j := by
  have lt : ∀ i, dstOf l i = some d → i < l.length := fun i hi => by
    rcases Nat.lt_or_ge i l.length with h | h
    · exact h
    · simp [dstOf, List.getElem?_eq_none h] at hi
  have h1 := List.all_eq_true.1 (List.all_eq_true.1 h i (List.mem_range.2 (lt i hi))) j (List.mem_range.2 (lt j hj))
  rw [← dstOf_eq, ← dstOf_eq, hi, hj] at h1
  simp only [Bool.or_eq_true] at h1
  rcases h1 with h1 | h1
  · exact Nat.eq_of_beq_eq_true h1
  · rw [show Nat.beq d d = true from by simp] at h1
    cases h1
theorem notDst_spec {l : List Oper} {t : Nat} (h : notDst l t = true) (i : Nat) : dstOf l i ≠ some t := by
  intro hi
  unfold dstOf at hi
  obtain ⟨o, ho, hd⟩ := Option.bind_eq_some_iff.1 hi
  have := List.all_eq_true.1 h o (List.mem_of_getElem? ho)
  rw [hd] at this
  simp at this
/-- what is known behind the region -/
structure Done (l : List Oper) (sp : List Sp) (N : Nat) (a0 : Act) (W : World) (G : Nat → Nat) (a : Act) (w : World) : Prop where
  fr : Fr N a
  low : Low W w
  keep : ∀ t v, notDst l t = true → At a0 t v → At a t v
  val : ∀ i v d, spAt sp i = some (.val v) → dstAt l i = some d → At a d v
  ptr : ∀ i z T j x d, spAt sp i = some (.new z T j x) → dstAt l i = some d → At a d (.pointer (some ⟨G i, 0, none⟩))
  ge : ∀ i z T j x d, spAt sp i = some (.new z T j x) → dstAt l i = some d → W.heap.size ≤ G i
  blk : ∀ i z T j x d, spAt sp i = some (.new z T j x) → dstAt l i = some d → w.heap[G i]? = some (.cells x T)
  ne : ∀ i j z T m x z' T' m' x', Nat.beq i j = false → spAt sp i = some (.new z T m x) → spAt sp j = some (.new z' T' m' x') → G i ≠ G j
end
end Go.Proofs.YtnhchnlgleokoaaDoor.Q
end
/-! Q6 -/
section
namespace Go.Proofs.YtnhchnlgleokoaaDoor.Q
open Go.RowKit
/-- the slice value v bears the numbers l, in a row from block B on, of which nothing is frozen -/
def OwnB (w : World) (B : Nat) (E : TypeId) (v : Value) (l : List Int) : Prop :=
  (v = .slice none 0 0 ∧ l = []) ∨ ∃ g cap cur fz, v = .slice (some ⟨g, 0, none⟩) l.length cap ∧ B ≤ g ∧ w.heap[g]? = some (.cells cur E fz) ∧ (fz.2 = 0 ∨ cur.size ≤ fz.1) ∧ l.length ≤ cap ∧ cap ≤ maxLen ∧ cur.size = cap ∧ cur.toList.take l.length = l.map (.int .u8)
theorem OwnB.nil (w : World) (B : Nat) (E : TypeId) : OwnB w B E (.slice none 0 0) [] := .inl ⟨rfl, rfl⟩
theorem OwnB.form {w : World} {B : Nat} {E : TypeId} {v : Value} {l : List Int} (h : OwnB w B E v l) : ∃ A cap, v = .slice A l.length cap ∧ l.length ≤ cap := by
  rcases h with ⟨rfl, rfl⟩ | ⟨g, cap, cur, fz, rfl, _, _, _, h1, _⟩
  · exact ⟨none, 0, rfl, Nat.le_refl _⟩
  · exact ⟨_, cap, rfl, h1⟩
theorem OwnB.lt {w : World} {B : Nat} {E : TypeId} {v : Value} {l : List Int} (h : OwnB w B E v l) : ∀ k, v.ownBlock = some k → B ≤ k ∧ k < w.heap.size ∧ ∃ cur fz, w.heap[k]? = some (.cells cur E fz) := by
  intro k hk
  rcases h with ⟨rfl, rfl⟩ | ⟨g, cap, cur, fz, rfl, h1, h2, _⟩
  · simp [Value.ownBlock] at hk
  · simp [Value.ownBlock] at hk
    subst hk
    exact ⟨h1, heap_lt h2, cur, fz, h2⟩
theorem OwnB.keep {w w' : World} {B : Nat} {E : TypeId} {v : Value} {l : List Int} (h : OwnB w B E v l) (hk : ∀ k, v.ownBlock = some k → w'.heap[k]? = w.heap[k]?) : OwnB w' B E v l := by
  rcases h with ⟨rfl, rfl⟩ | ⟨g, cap, cur, fz, rfl, h1, h2, h3⟩
  · exact .inl ⟨rfl, rfl⟩
  · exact .inr ⟨g, cap, cur, fz, rfl, h1, by rw [hk g rfl]; exact h2, h3⟩
theorem OwnB.low {w w' : World} {B : Nat} {E : TypeId} {v : Value} {l : List Int} (h : OwnB w B E v l) (hl : Low w w') : OwnB w' B E v l := h.keep fun k hk => hl.block k (h.lt k hk).2.1
theorem OwnB.upd {w w' : World} {B g : Nat} {E T : TypeId} {v : Value} {l : List Int} {cs : Array Value} (h : OwnB w B E v l) (u : Upd g w w') (hg : w.heap[g]? = some (.cells cs T)) (hT : Nat.beq T E = false) : OwnB w' B E v l := h.keep fun k hk => u.block k fun e => by
  subst e
  obtain ⟨_, _, cur, fz, h2⟩ := h.lt k hk
  rw [hg] at h2
  simp only [Option.some.injEq, Obj.cells.injEq] at h2
  obtain ⟨_, rfl, _⟩ := h2
  simp at hT
theorem OwnB.cells {w : World} {B : Nat} {E : TypeId} {v : Value} {l : List Int} (h : OwnB w B E v l) {g : Nat} (hg : v.ownBlock = some g) (j : Nat) (hj : j < l.length) : w.cell? ⟨g, j, none⟩ = some (.int .u8 (l.getD j 0)) := by
  rcases h with ⟨rfl, rfl⟩ | ⟨g', cap, cur, fz, rfl, h1, h2, h3, h4, h5, h6, h7⟩
  · simp [Value.ownBlock] at hg
  · simp [Value.ownBlock] at hg
    subst hg
    rw [cell_of_row w g' j cur E fz h2]
    have : (cur.toList.take l.length)[j]? = (l.map (Value.int .u8))[j]? := by rw [h7]
    rw [List.getElem?_take, if_pos hj] at this
    simp only [Array.getElem?_toList] at this
    rw [this]
    simp [hj, List.getD_eq_getElem?_getD]
/-- what an append leaves as_ it was -/
structure Gr (B : Nat) (E : TypeId) (v v' : Value) (w w' : World) : Prop where
  os : w'.os = w.os
  tape : w'.tape = w.tape
  output : w'.output = w.output
  size : w.heap.size ≤ w'.heap.size
  block : ∀ k, k < w.heap.size → v.ownBlock ≠ some k → w'.heap[k]? = w.heap[k]?
  old : ∀ k, v.ownBlock = some k → B ≤ k ∧ ∃ cur fz, w.heap[k]? = some (.cells cur E fz)
  row : v'.ownBlock = v.ownBlock ∨ ∃ b, v'.ownBlock = some b ∧ w.heap.size ≤ b
theorem Gr.blk {B : Nat} {E T : TypeId} {v v' : Value} {w w' : World} (h : Gr B E v v' w w') {g : Nat} {cs : Array Value} (hg : w.heap[g]? = some (.cells cs T)) (hT : Nat.beq T E = false) : w'.heap[g]? = some (.cells cs T) := by
  rw [h.block g (heap_lt hg) fun e => ?_]
  · exact hg
  · obtain ⟨_, cur, fz, h2⟩ := h.old g e
    rw [hg] at h2
    simp only [Option.some.injEq, Obj.cells.injEq] at h2
    obtain ⟨_, rfl, _⟩ := h2
    simp at hT
theorem Low.gr {w0 w w' : World} {E : TypeId} {v v' : Value} (h : Low w0 w) (g : Gr w0.heap.size E v v' w w') : Low w0 w' :=
  Below.trans h ⟨g.os, g.tape, g.output, g.size, fun k hk => g.block k (Nat.lt_of_lt_of_le hk h.size) fun e => by have := (g.old k e).1; omega⟩
theorem Gr.other {B : Nat} {E : TypeId} {v v' u : Value} {w w' : World} {l : List Int} (h : Gr B E v v' w w') (hu : OwnB w B E u l) (hne : ∀ k, u.ownBlock = some k → v.ownBlock ≠ some k) : OwnB w' B E u l ∧ ∀ k, u.ownBlock = some k → v'.ownBlock ≠ some k := by
  refine ⟨hu.keep fun k hk => h.block k (hu.lt k hk).2.1 (hne k hk), fun k hk => ?_⟩
  rcases h.row with e | ⟨b, e, hb⟩
  · rw [e]; exact hne k hk
  · rw [e]; intro e'; injection e' with e'; have := (hu.lt k hk).2.1; omega
section
variable {P : Program} {Q : Exit → Act → World → Prop} {a : Act} {w : World} {o : Oper} {ops : Array Oper} {rest : List Oper} {K : Act → Prop} {C : World → Prop}
end
end Go.Proofs.YtnhchnlgleokoaaDoor.Q
end
/-! WWords -/
section
set_option linter.unusedVariables false
set_option linter.unusedSimpArgs false
namespace Go.Proofs.YtnhchnlgleokoaaDoorW.PrintWords
open Go.RowKit
/-- A fact that the walk's simp doesn't look into. -/
structure Aside0 (p : Prop) : Prop where mk :: (out : p)
/-- The world is the old one, some orders having been drawn. -/
structure Drawn0 (w w' : World) : Prop where mk :: (out : ∃ n, w' = w.drewN n)
theorem Drawn0.refl (w : World) : Drawn0 w w := ⟨⟨0, rfl⟩⟩
theorem Drawn0.step {w w' : World} (h : Drawn0 w w') (n : Nat) : Drawn0 w (w'.drewN n) := by
  obtain ⟨m, rfl⟩ := h
  exact ⟨⟨m + n, World.drewN_drewN ..⟩⟩
theorem Drawn0.grown {w w' : World} (h : Drawn0 w w') : Grown w w' := by
  obtain ⟨n, rfl⟩ := h
  induction n with
  | zero => exact Grown.refl _
  | succ n ih => rw [← World.drew_drewN]; exact Grown.drew ih
theorem Drawn0.below {w w' : World} (h : Drawn0 w w') : Below w.heap.size w w' := by
  obtain ⟨n, rfl⟩ := h
  induction n with
  | zero => exact Below.refl _ _
  | succ n ih => rw [← World.drew_drewN]; exact ih.drew
def rd (xs : List Int) (i : Int) : Int := xs.getD i.toNat 0
def bt (s : ByteArray) (i : Int) : Int := if h : i.toNat < s.size then ((s[i.toNat]'h).toNat : Int) else 0
theorem bt_at (s : ByteArray) (i : Int) : ∀ h : i.toNat < s.size, ((s[i.toNat]'h).toNat : Int) = bt s i := fun h => by simp [bt, h]
def nums (k : IntKind) (xs : List Int) : List Value := xs.map fun x => .int k x
theorem below_alloc {w W : World} (h : Below w.heap.size w W) (o : Obj) : Below w.heap.size w (W.alloc o) := h.alloc h.size o
theorem below_drew {B : Nat} {w W : World} (h : Below B w W) : Below B w W.drew := ⟨h.os, h.tape, h.output, h.size, h.block⟩
theorem pw_below_drewN {B : Nat} {w W : World} (h : Below B w W) (n : Nat) : Below B w (W.drewN n) := ⟨h.os, h.tape, h.output, h.size, h.block⟩
theorem below_then {B : Nat} {w w1 w2 : World} (h : Below B w w1) (hB : B ≤ w1.heap.size) (k : Below w1.heap.size w1 w2) : Below B w w2 :=
  h.trans ⟨k.os, k.tape, k.output, k.size, fun i hi => k.block i (Nat.lt_of_lt_of_le hi hB)⟩
theorem grown_of_below {w w1 : World} (h : Below w.heap.size w w1) (row : Option Nat) : w.grownBy w1 row := ⟨h.os, h.tape, h.output, h.size, fun i hi _ => h.block i hi⟩
theorem pw_cell_below {w w1 : World} (h : Below w.heap.size w w1) {a : Addr} {v : Value} (hc : w.cell? a = some v) : w1.cell? a = some v := (h.cell (World.block_lt_of_cell? w a hc)).trans hc
theorem add_plain (g j : Nat) : (⟨g, 0, none⟩ : Addr).add j = ⟨g, j, none⟩ := by unfold Addr.add; split <;> simp_all
theorem own_nil (W : World) (base : Nat) (e : TypeId) (size : Nat) : W.ownsRow base e size (.slice none 0 0) 0 [] := ⟨by simp, .inl ⟨rfl, rfl⟩⟩
theorem own_base {w : World} {base : Nat} {e : TypeId} {size n : Nat} {v : Value} {xs : List Value} (h : w.ownsRow base e size v n xs) (k : Nat) (hk : v.ownBlock = some k) : base ≤ k := by
  rcases h.2 with ⟨rfl, _⟩ | ⟨g, cap, cur, rfl, hb, _⟩
  · simp [Value.ownBlock] at hk
  · have : g = k := by simpa [Value.ownBlock] using hk
    omega
theorem own_lt {w : World} {base : Nat} {e : TypeId} {size n : Nat} {v : Value} {xs : List Value} (h : w.ownsRow base e size v n xs) (k : Nat) (hk : v.ownBlock = some k) : k < w.heap.size := by
  rcases h.2 with ⟨rfl, _⟩ | ⟨g, cap, cur, rfl, hb, hh, _⟩
  · simp [Value.ownBlock] at hk
  · have : g = k := by simpa [Value.ownBlock] using hk
    subst this
    exact (Array.getElem?_eq_some_iff.1 hh).1
theorem pw_own_below {w w1 : World} {base : Nat} {e : TypeId} {size n : Nat} {v : Value} {xs : List Value} (h : w.ownsRow base e size v n xs) (hb : Below w.heap.size w w1) : w1.ownsRow base e size v n xs :=
  h.kept (grown_of_below hb none) (by cases v.ownBlock <;> simp)
/-- What is written is another row: this one lives on. -/
theorem own_other {w w1 : World} {base : Nat} {e : TypeId} {size n : Nat} {v : Value} {xs : List Value} (h : w.ownsRow base e size v n xs) {row : Option Nat} (hg : w.grownBy w1 row) (hne : v.ownBlock = none ∨ v.ownBlock ≠ row) : w1.ownsRow base e size v n xs := h.kept hg hne
theorem own_string {P : Program} {w : World} {base n : Nat} {e' src dst e : TypeId} {v : Value} {xs : List Int} (hs : P.underlying src = some (.slice e)) (he : P.underlying e = some (.int .u8)) (hd : P.underlying dst = some .string)
    (h : w.ownsRow base e' 1 v n (nums .u8 xs)) : (convert src dst v).run P w = .ok (.string (strOfNums xs)) w := by
  have hl : xs.length = n := by have := h.1; simp [nums] at this; exact this
  rcases h.2 with ⟨rfl, rfl⟩ | ⟨g, cap, cur, rfl, _⟩
  · obtain rfl : xs = [] := List.eq_nil_of_length_eq_zero hl
    exact run_convert_bytes_nil w src e hs he 0 0 dst hd
  · refine run_convert_bytes_arg w src e hs he g 0 n cap xs hl (fun i hi => ?_) dst hd
    have hc := h.cells (g := g) rfl i (.int .u8 (xs.getD i 0)) (by simp [nums, List.getElem?_eq_getElem (show i < xs.length by omega), List.getD_eq_getElem?_getD])
    have ha : (⟨g, 0, none⟩ : Addr).add i = ⟨g, 0 + i, none⟩ := by unfold Addr.add; split <;> simp_all
    rwa [ha] at hc
section
variable {P : Program} {ops : Array Oper} {rest : List Oper} {o : Oper} {a : Act} {Q : Exit → Act → World → Prop}
end
section
variable {P : Program}
end
section
variable {P : Program} {ops : Array Oper} {rest : List Oper} {o : Oper} {a : Act} {Q : Exit → Act → World → Prop}
end
def bytesOf (s : ByteArray) : List Int := s.data.toList.map fun b => (b.toNat : Int)
theorem data_length (s : ByteArray) : s.data.toList.length = s.size := by rw [Array.length_toList]; rfl
theorem bytesOf_length (s : ByteArray) : (bytesOf s).length = s.size := by rw [bytesOf, List.length_map, data_length]
/-- Where the first answers, the second answers the same. -/
def LeO {α : Type} (a b : Option α) : Prop := ∀ r, a = some r → b = some r
theorem LeO.refl {α : Type} (a : Option α) : LeO a a := fun _ h => h
theorem LeO.none {α : Type} (b : Option α) : LeO Option.none b := fun _ h => by cases h
theorem LeO.trans {α : Type} {a b c : Option α} (h : LeO a b) (k : LeO b c) : LeO a c := fun r hr => k r (h r hr)
theorem LeO.ite {α : Type} {c : Prop} [Decidable c] {a a' b b' : Option α} (h : LeO a a') (k : LeO b b') : LeO (if c then a else b) (if c then a' else b') := by
  split
  · exact h
  · exact k
theorem LeO.bind {α β : Type} {a a' : Option α} {f f' : α → Option β} (h : LeO a a') (k : ∀ x, LeO (f x) (f' x)) : LeO (a.bind f) (a'.bind f') := by
  intro r hr
  obtain ⟨x, hx, hf⟩ := Option.bind_eq_some_iff.1 hr
  exact Option.bind_eq_some_iff.2 ⟨x, h x hx, k x r hf⟩
theorem LeO.map {α β : Type} {a a' : Option α} (f : α → β) (h : LeO a a') : LeO (a.map f) (a'.map f) := by
  intro r hr
  obtain ⟨x, hx, hf⟩ := Option.map_eq_some_iff.1 hr
  exact Option.map_eq_some_iff.2 ⟨x, h x hx, hf⟩
theorem more_rounds {α : Type} {g : Nat → Option α} (h : ∀ k, LeO (g k) (g (k + 1))) (k : Nat) : ∀ j, LeO (g k) (g (k + j))
  | 0 => LeO.refl _
  | j + 1 => (more_rounds h k j).trans (h (k + j))
theorem at_rounds {α : Type} {g : Nat → Option α} (h : ∀ k, LeO (g k) (g (k + 1))) {k k' : Nat} (hk : k ≤ k') {r : α} (hr : g k = some r) : g k' = some r := by
  have := more_rounds h k (k' - k) r hr
  rwa [Nat.add_sub_cancel' hk] at this
def Reps {α : Type} (R : α → List Value → Prop) (size : Nat) (ps : List α) (cs : List Value) : Prop :=
  cs.length = ps.length * size ∧ ∀ j p, ps[j]? = some p → R p ((cs.drop (j * size)).take size)
theorem Reps.none {α : Type} (R : α → List Value → Prop) (size : Nat) : Reps R size [] [] := ⟨by simp, fun j p h => by simp at h⟩
theorem Reps.snoc {α : Type} {R : α → List Value → Prop} {size : Nat} {ps : List α} {cs c : List Value} {p : α} (h : Reps R size ps cs) (hp : R p c) (hc : c.length = size) : Reps R size (ps ++ [p]) (cs ++ c) := by
  refine ⟨by rw [List.length_append, h.1, hc, List.length_append, List.length_singleton, Nat.add_mul, Nat.one_mul], fun j q hq => ?_⟩
  rcases Nat.lt_or_ge j ps.length with hj | hj
  · rw [List.getElem?_append_left hj] at hq
    have h1 : j * size + size ≤ cs.length := by rw [h.1, ← Nat.succ_mul]; exact Nat.mul_le_mul_right _ hj
    have h2 := h.2 j q hq
    rw [List.drop_append_of_le_length (by omega), List.take_append_of_le_length (by rw [List.length_drop]; omega)]
    exact h2
  · have hj' : j = ps.length := by
      have := (List.getElem?_eq_some_iff.1 hq).1
      rw [List.length_append, List.length_singleton] at this
      omega
    subst hj'
    have hq' : p = q := by simpa using hq
    subst hq'
    rw [← h.1, List.drop_left, ← hc, List.take_length]
    exact hp
theorem Reps.imp_ {α : Type} {R R' : α → List Value → Prop} {size : Nat} {ps : List α} {cs : List Value} (h : Reps R size ps cs) (hR : ∀ p c, R p c → R' p c) : Reps R' size ps cs := ⟨h.1, fun j p hj => hR _ _ (h.2 j p hj)⟩
def ReadsRow {α : Type} (R : α → List Value → Prop) (size : Nat) (w : World) (A : Option Addr) (n : Nat) (ps : List α) : Prop :=
  ps.length = n ∧ n ≤ 9223372036854775807 ∧ (0 < n → ∃ ad, A = some ad ∧ ∀ j p, ps[j]? = some p → ∃ c, c.length = size ∧ R p c ∧ ∀ i u, c[i]? = some u → w.cell? (ad.add (j * size + i)) = some u)
theorem ReadsRow.imp_ {α : Type} {R R' : α → List Value → Prop} {size : Nat} {w w1 : World} {A : Option Addr} {n : Nat} {ps : List α} (h : ReadsRow R size w A n ps) (hb : Below w.heap.size w w1) (hR : ∀ p c, R p c → R' p c) : ReadsRow R' size w1 A n ps :=
  ⟨h.1, h.2.1, fun hn => by
    obtain ⟨ad, e, hc⟩ := h.2.2 hn
    refine ⟨ad, e, fun j p hj => ?_⟩
    obtain ⟨c, hs, hr, hcell⟩ := hc j p hj
    exact ⟨c, hs, hR _ _ hr, fun i u hu => pw_cell_below hb (hcell i u hu)⟩⟩
theorem own_reads_row {α : Type} {R : α → List Value → Prop} {w : World} {base n size : Nat} {e : TypeId} {v : Value} {ps : List α} {cs : List Value} (h : w.ownsRow base e size v n cs) (hR : Reps R size ps cs) (hn : ps.length = n) :
    ∃ A c, v = .slice A n c ∧ ReadsRow R size w A n ps := by
  rcases Nat.eq_zero_or_pos n with h0 | h0
  · rcases h.2 with ⟨rfl, rfl⟩ | ⟨g, cap, cur, rfl, _⟩
    · exact ⟨none, 0, rfl, hn, by omega, fun hp => absurd hp (by omega)⟩
    · exact ⟨_, cap, rfl, hn, by omega, fun hp => absurd hp (by omega)⟩
  · obtain ⟨g, cap, rfl, _, _⟩ := h.form h0
    have hm : n ≤ 9223372036854775807 := by
      rcases h.2 with ⟨_, h1⟩ | ⟨g', cap', cur, he, _, _, h1, h2, _⟩
      · omega
      · simp only [maxLen] at h2
        omega
    refine ⟨_, cap, rfl, hn, hm, fun _ => ⟨_, rfl, fun j p hj => ⟨(cs.drop (j * size)).take size, ?_, hR.2 j p hj, fun i u hu => ?_⟩⟩⟩
    · have hjl := (List.getElem?_eq_some_iff.1 hj).1
      have h1 : j * size + size ≤ cs.length := by rw [hR.1, ← Nat.succ_mul]; exact Nat.mul_le_mul_right _ hjl
      rw [List.length_take, List.length_drop]
      omega
    · refine h.cells (g := g) rfl _ u ?_
      rw [List.getElem?_take] at hu
      split at hu
      · rw [List.getElem?_drop] at hu
        exact hu
      · cases hu
section
variable {P : Program} {ops : Array Oper} {rest : List Oper} {o : Oper} {a : Act} {Q : Exit → Act → World → Prop}
/-- append(v, x), x of several cells; behind 'at_builtin'; the goal's world is 'W.alloc' of the variadic's box. -/
theorem print_append_cells {w0 W : World} (base : Nat) (hgd : o.guard = none) (s x : Operand) (t e : TypeId) (z : Value) (size bytes : Nat)
    (ho : o.op = .call { callee := .builtin .append, args := #[s, x], argTypes := #[t, t] })
    (ht : P.underlying t = some (.slice e)) (hinfo : (P.info? e).map (fun i => (i.zero, i.size, i.bytes)) = some (some z, size, bytes)) (hz : z.cells.size = size) (hs0 : 0 < size) (hb0 : 0 < bytes)
    (v : Value) (n : Nat) (xs ys : List Value) (hs : a.eval s = v) (hx : a.eval x = .slice (some ⟨W.heap.size, 0, none⟩) 1 1) (hys : ys.length = size) (h1 : ∀ u ∈ ys, u.oneCell' = true)
    (HO : W.ownsRow base e size v n xs) (HB : Below base w0 W) (hbase : base ≤ W.heap.size) (hl : (n + 1) * bytes ≤ 140737488355328)
    (h : ∀ v1 w1, w1.ownsRow base e size v1 (n + 1) (xs ++ ys) → Below base w0 w1 → W.grownBy w1 v.ownBlock → (v1.ownBlock = v.ownBlock ∨ ∃ b, v1.ownBlock = some b ∧ W.heap.size ≤ b) → wpList P ops Q rest (a.put o.dst v1) w1) :
    wpList P ops Q (o :: rest) a (W.alloc (.cells ys.toArray e)) := by
  obtain ⟨i0, hi, hzz⟩ := Option.map_eq_some_iff.1 hinfo
  simp only [Prod.mk.injEq] at hzz
  obtain ⟨hz0, hz1, hz2⟩ := hzz
  have hlen : n + 1 ≤ 140737488355328 := Nat.le_trans (Nat.le_mul_of_pos_right _ hb0) hl
  refine wpList_append_own_at (W.alloc (.cells ys.toArray e)) hgd s x t ho base e i0 z size bytes ht hi hz0 hz1 hz2 hz hs0 v n xs hs (HO.alloc _) ⟨W.heap.size, 0, none⟩ 1 1 ys hx (by rw [hys]; simp)
    (by simpa using World.news_of_block (cs := ys.toArray) (t := e) (fr := (0, 0)) (heap_alloc_new W (.cells ys.toArray e))) h1 (by simp only [maxLen]; omega) hl (by simp; omega) ?_
  intro v1 w1 hown hg _ hat
  refine h v1 w1 hown ((HB.alloc hbase _).grown hg (by simp; omega) (own_base HO)) (World.grownBy.trans (World.grownBy_alloc W _ _) hg) ?_
  rcases hat with hat | hat
  · exact .inl hat
  · exact .inr ⟨_, hat, by simp⟩
end
theorem own_ne {w : World} {base : Nat} {e t : TypeId} {size n g : Nat} {v : Value} {xs : List Value} {cs : Array Value} (h : w.ownsRow base e size v n xs) (hg : w.heap[g]? = some (.cells cs t (0, 0))) (hne : e ≠ t) : some g ≠ v.ownBlock := by
  rcases h.2 with ⟨rfl, _⟩ | ⟨g', cap, cur, rfl, _, hh, _⟩
  · simp [Value.ownBlock]
  · intro he
    have : g = g' := by simpa [Value.ownBlock] using he
    subst this
    rw [hg] at hh
    injection hh with hh
    injection hh with _ ht
    exact hne ht.symm
theorem blk_set {w : World} {g : Nat} {t : TypeId} {cs : Array Value} (h : w.heap[g]? = some (.cells cs t (0, 0))) (i : Nat) (u : Value) : (w.setCell ⟨g, i, none⟩ u).heap[g]? = some (.cells (cs.setIfInBounds i u) t (0, 0)) := by
  simp [World.setCell, Array.getElem?_modify, h]
theorem blk_lt {w : World} {g : Nat} {o : Obj} (h : w.heap[g]? = some o) : g < w.heap.size := (Array.getElem?_eq_some_iff.1 h).1
theorem blk_cell {w : World} {g : Nat} {t : TypeId} {cs : Array Value} (h : w.heap[g]? = some (.cells cs t (0, 0))) (i : Nat) : w.cell? ⟨g, i, none⟩ = cs[i]? := cell_of_row w g i cs t (0, 0) h
theorem blk_frozen {w : World} {g : Nat} {t : TypeId} {cs : Array Value} (h : w.heap[g]? = some (.cells cs t (0, 0))) (i : Nat) : w.frozen? ⟨g, i, none⟩ = false := by simp [World.frozen?, h]
def KeepBut (w w' : World) (g : Nat) (row : Option Nat) : Prop := w.heap.size ≤ w'.heap.size ∧ ∀ i, i < w.heap.size → i ≠ g → some i ≠ row → w'.heap[i]? = w.heap[i]?
theorem KeepBut.refl (w : World) (g : Nat) (row : Option Nat) : KeepBut w w g row := ⟨Nat.le_refl _, fun _ _ _ _ => rfl⟩
theorem KeepBut.trans {w w1 w2 : World} {g : Nat} {row row1 : Option Nat} (h : KeepBut w w1 g row) (k : KeepBut w1 w2 g row1) (hr : row1 = row ∨ ∃ b, row1 = some b ∧ w.heap.size ≤ b) : KeepBut w w2 g row :=
  ⟨Nat.le_trans h.1 k.1, fun i hi hg hn => by
    refine (k.2 i (Nat.lt_of_lt_of_le hi h.1) hg ?_).trans (h.2 i hi hg hn)
    rcases hr with rfl | ⟨b, rfl, hb⟩
    · exact hn
    · intro e
      injection e with e
      omega⟩
/-- Another block, another row: they live on. -/
theorem KeepBut.blk {w w1 : World} {g g' : Nat} {row : Option Nat} {o : Obj} (h : KeepBut w w1 g row) (hb : w.heap[g']? = some o) (hg : g' ≠ g) (hr : some g' ≠ row) : w1.heap[g']? = some o := (h.2 g' (blk_lt hb) hg hr).trans hb
theorem KeepBut.own {w w1 : World} {g : Nat} {row : Option Nat} {base : Nat} {e : TypeId} {size n : Nat} {v : Value} {xs : List Value} (h : KeepBut w w1 g row) (ho : w.ownsRow base e size v n xs) (hg : v.ownBlock ≠ some g) (hr : v.ownBlock = none ∨ v.ownBlock ≠ row) : w1.ownsRow base e size v n xs := by
  obtain ⟨h1, h2⟩ := ho
  refine ⟨h1, ?_⟩
  rcases h2 with h2 | ⟨b, cap, cur, rfl, hb, hh, r⟩
  · exact .inl h2
  · refine .inr ⟨b, cap, cur, rfl, hb, h.blk hh ?_ ?_, r⟩
    · intro e
      exact hg (by rw [← e]; rfl)
    · rcases hr with hr | hr
      · simp [Value.ownBlock] at hr
      · exact hr
def Ev {α : Type} (g : Nat → Option α) (r : α) : Prop := ∃ K, ∀ k, K ≤ k → g k = some r
theorem Ev.of {α : Type} {g : Nat → Option α} {r : α} (hg : ∀ k, LeO (g k) (g (k + 1))) {k : Nat} (h : g k = some r) : Ev g r := ⟨k, fun _ hk => at_rounds hg hk h⟩
theorem Ev.now {α : Type} (r : α) : Ev (fun _ => some r) r := ⟨0, fun _ _ => rfl⟩
theorem Ev.rounds {α : Type} {g : Nat → Option α} {r : α} (h : Ev g r) : ∃ k, g k = some r := by
  obtain ⟨K, h⟩ := h
  exact ⟨K, h K (Nat.le_refl _)⟩
theorem Ev.bind {α β : Type} {g : Nat → Option α} {f : Nat → α → Option β} {a : α} {r : β} (h : Ev g a) (k : Ev (fun n => f n a) r) : Ev (fun n => (g n).bind (f n)) r := by
  obtain ⟨K, h⟩ := h
  obtain ⟨K', k⟩ := k
  refine ⟨max K K', fun n hn => ?_⟩
  have h1 := h n (by omega)
  have h2 := k n (by omega)
  simp only [h1, Option.bind_some]
  exact h2
/-- One round of a loop. -/
theorem Ev.step {α : Type} {g f : Nat → Option α} {r : α} (h : ∀ k, g (k + 1) = f k) (k : Ev f r) : Ev g r := by
  obtain ⟨K, k⟩ := k
  refine ⟨K + 1, fun n hn => ?_⟩
  obtain ⟨m, rfl⟩ : ∃ m, n = m + 1 := ⟨n - 1, by omega⟩
  rw [h]
  exact k m (by omega)
theorem Ev.congr {α : Type} {g f : Nat → Option α} {r : α} (h : ∀ k, g k = f k) (k : Ev f r) : Ev g r := by
  obtain ⟨K, k⟩ := k
  exact ⟨K, fun n hn => (h n).trans (k n hn)⟩
section
variable {P : Program} {ops : Array Oper} {o : Oper} {a : Act} {Q : Exit → Act → World → Prop} {K : Act → World → Prop}
end
theorem own_weaken {w : World} {base base' : Nat} {e : TypeId} {size n : Nat} {v : Value} {xs : List Value} (h : w.ownsRow base e size v n xs) (hb : base' ≤ base) : w.ownsRow base' e size v n xs := by
  obtain ⟨h1, h2⟩ := h
  refine ⟨h1, ?_⟩
  rcases h2 with h2 | ⟨g, cap, cur, rfl, hg, r⟩
  · exact .inl h2
  · exact .inr ⟨g, cap, cur, rfl, Nat.le_trans hb hg, r⟩
section
variable {α : Type} {enc : α → Value} {d : α}
def encs (enc : α → Value) (xs : List α) : List Value := xs.map enc
def rdOf (d : α) (xs : List α) (i : Int) : α := xs.getD i.toNat d
theorem encs_length (xs : List α) : (encs enc xs).length = xs.length := by simp [encs]
theorem encs_get (xs : List α) (j : Nat) (h : j < xs.length) : (encs enc xs)[j]? = some (enc (xs.getD j d)) := by
  simp [encs, List.getElem?_eq_getElem h, List.getD_eq_getElem?_getD]
def ReadsOf (enc : α → Value) (d : α) (w : World) (A : Option Addr) (n : Nat) (xs : List α) : Prop :=
  xs.length = n ∧ n ≤ 9223372036854775807 ∧ (0 < n → ∃ ad, A = some ad ∧ ∀ j, j < n → w.cell? (ad.add j) = some (enc (xs.getD j d)))
theorem ReadsOf.at_ {w : World} {A : Option Addr} {n : Nat} {xs : List α} (h : ReadsOf enc d w A n xs) (i : Int) (h0 : 0 ≤ i) (h1 : i < n) : ∃ ad, A = some ad ∧ w.cell? (ad.add i.toNat) = some (enc (rdOf d xs i)) := by
  obtain ⟨ad, e, hc⟩ := h.2.2 (by omega)
  exact ⟨ad, e, hc _ (by omega)⟩
theorem ReadsOf.below {w w1 : World} {A : Option Addr} {n : Nat} {xs : List α} (h : ReadsOf enc d w A n xs) (hb : Below w.heap.size w w1) : ReadsOf enc d w1 A n xs :=
  ⟨h.1, h.2.1, fun hn => by
    obtain ⟨ad, e, hc⟩ := h.2.2 hn
    exact ⟨ad, e, fun j hj => pw_cell_below hb (hc j hj)⟩⟩
theorem own_at_of {W : World} {base g n cap : Nat} {e : TypeId} {xs : List α} (h : W.ownsRow base e 1 (.slice (some ⟨g, 0, none⟩) n cap) n (encs enc xs)) (i : Int) (h0 : 0 ≤ i) (h1 : i < n) :
    W.cell? ⟨g, i.toNat, none⟩ = some (enc (rdOf d xs i)) ∧ W.frozen? ⟨g, i.toNat, none⟩ = false := by
  have hl : xs.length = n := by have := h.1; simp [encs] at this; exact this
  constructor
  · have hc := h.cells (g := g) rfl i.toNat _ (encs_get (d := d) xs i.toNat (by omega))
    rwa [add_plain] at hc
  · rcases h.2 with ⟨h', _⟩ | ⟨g', cap', cur, h', _, hh, _⟩
    · cases h'
    · have : g = g' := by injection h' with h'; injection h' with h'; injection h' with h'
      subst this
      simp [World.frozen?, hh]
theorem own_store_of {W : World} {base g n cap : Nat} {e : TypeId} {xs : List α} (h : W.ownsRow base e 1 (.slice (some ⟨g, 0, none⟩) n cap) n (encs enc xs)) (i : Int) (x : α) :
    (W.setCell ⟨g, i.toNat, none⟩ (enc x)).ownsRow base e 1 (.slice (some ⟨g, 0, none⟩) n cap) n (encs enc (xs.set i.toNat x)) ∧ W.grownBy (W.setCell ⟨g, i.toNat, none⟩ (enc x)) (some g) := by
  have hs := h.stored i.toNat (enc x)
  have he : (encs enc xs).set i.toNat (enc x) = encs enc (xs.set i.toNat x) := by simp [encs, List.map_set]
  rwa [he] at hs
end
section
variable {α : Type} {P : Program} {ops : Array Oper} {rest : List Oper} {o : Oper} {a : Act} {Q : Exit → Act → World → Prop}
end
theorem blk_drewN {w : World} {g : Nat} {o : Obj} (h : w.heap[g]? = some o) (n : Nat) : (w.drewN n).heap[g]? = some o := h
theorem blk_new (w : World) (o : Obj) : (w.alloc o).heap[w.heap.size]? = some o := heap_alloc_new w o
section
variable {P : Program}
end
theorem own_le {w : World} {base n m c size : Nat} {e : TypeId} {A : Option Addr} {xs : List Value} (h : w.ownsRow base e size (.slice A m c) n xs) : m ≤ c := by
  rcases h.2 with ⟨he, _⟩ | ⟨g, cap, cur, he, _, _, hnc, _⟩
  · injection he with _ h2 h3
    omega
  · injection he with _ h2 h3
    omega
def OwnRow {α : Type} (R : α → List Value → Prop) (e : TypeId) (size : Nat) (w : World) (base : Nat) (v : Value) (ps : List α) : Prop :=
  ∃ inner, w.ownsRow base e size v ps.length inner ∧ Reps R size ps inner
section
variable {α : Type} {R R' : α → List Value → Prop} {e : TypeId} {size : Nat} {w w1 : World} {base : Nat} {v : Value} {ps : List α}
theorem OwnRow.none_ (R : α → List Value → Prop) (e : TypeId) (size : Nat) (w : World) (base : Nat) : OwnRow R e size w base (.slice none 0 0) [] := ⟨[], own_nil _ _ _ _, Reps.none _ _⟩
theorem OwnRow.imp_ (h : OwnRow R e size w base v ps) (hR : ∀ p c, R p c → R' p c) : OwnRow R' e size w base v ps := by
  obtain ⟨inner, ho, hr⟩ := h
  exact ⟨inner, ho, hr.imp_ hR⟩
theorem OwnRow.below (h : OwnRow R e size w base v ps) (hb : Below w.heap.size w w1) : OwnRow R e size w1 base v ps := by
  obtain ⟨inner, ho, hr⟩ := h
  exact ⟨inner, pw_own_below ho hb, hr⟩
theorem OwnRow.other (h : OwnRow R e size w base v ps) {row : Option Nat} (hg : w.grownBy w1 row) (hne : v.ownBlock = none ∨ v.ownBlock ≠ row) : OwnRow R e size w1 base v ps := by
  obtain ⟨inner, ho, hr⟩ := h
  exact ⟨inner, own_other ho hg hne, hr⟩
theorem OwnRow.keep (h : OwnRow R e size w base v ps) {g : Nat} {t : TypeId} {cells : Array Value} (hb : w.heap[g]? = some (.cells cells t (0, 0))) (ht : e ≠ t) (hk : KeepBut w w1 g none) : OwnRow R e size w1 base v ps := by
  obtain ⟨inner, ho, hr⟩ := h
  exact ⟨inner, hk.own ho (Ne.symm (own_ne ho hb ht)) (by cases v.ownBlock <;> simp), hr⟩
theorem OwnRow.reads (h : OwnRow R e size w base v ps) : ∃ A c, v = .slice A ps.length c ∧ ps.length ≤ c ∧ ReadsRow R size w A ps.length ps := by
  obtain ⟨inner, ho, hr⟩ := h
  obtain ⟨A, c, rfl, hrow⟩ := own_reads_row ho hr rfl
  exact ⟨A, c, rfl, own_le ho, hrow⟩
end
section
variable {P : Program} {ops : Array Oper} {rest : List Oper} {o : Oper} {a : Act} {Q : Exit → Act → World → Prop} {α : Type} {R : α → List Value → Prop}
/-- append(v, x): x's cells are cs. R is that of the world AHEAD; move it over hg ('OwnRow.imp_'). -/
theorem OwnRow.append {w0 W : World} (base : Nat) (hgd : o.guard = none) (s x : Operand) (t e : TypeId) (z : Value) (size bytes : Nat)
    (ho : o.op = .call { callee := .builtin .append, args := #[s, x], argTypes := #[t, t] })
    (ht : P.underlying t = some (.slice e)) (hinfo : (P.info? e).map (fun i => (i.zero, i.size, i.bytes)) = some (some z, size, bytes)) (hz : z.cells.size = size) (hs0 : 0 < size) (hb0 : 0 < bytes)
    (v : Value) (ps : List α) (p : α) (cs : List Value) (hs : a.eval s = v) (hx : a.eval x = .slice (some ⟨W.heap.size, 0, none⟩) 1 1) (hp : R p cs) (hcs : cs.length = size) (h1 : ∀ u ∈ cs, u.oneCell' = true)
    (HO : OwnRow R e size W base v ps) (HB : Below base w0 W) (hbase : base ≤ W.heap.size) (hl : (ps.length + 1) * bytes ≤ 140737488355328)
    (h : ∀ v1 w1, OwnRow R e size w1 base v1 (ps ++ [p]) → Below base w0 w1 → W.grownBy w1 v.ownBlock → (v1.ownBlock = v.ownBlock ∨ ∃ b, v1.ownBlock = some b ∧ W.heap.size ≤ b) → wpList P ops Q rest (a.put o.dst v1) w1) :
    wpList P ops Q (o :: rest) a (W.alloc (.cells cs.toArray e)) := by
  obtain ⟨inner, hown, hr⟩ := HO
  refine print_append_cells base hgd s x t e z size bytes ho ht hinfo hz hs0 hb0 v ps.length inner cs hs hx hcs h1 hown HB hbase hl ?_
  intro v1 w1 hown1 hb1 hg1 hat1
  exact h v1 w1 ⟨inner ++ cs, by rw [List.length_append, List.length_singleton]; exact hown1, hr.snoc hp hcs⟩ hb1 hg1 hat1
end
section
variable {P : Program} {ops : Array Oper} {o : Oper} {a : Act} {Q : Exit → Act → World → Prop} {K : Act → World → Prop} {α : Type} {R : α → List Value → Prop}
end
/-- What is read as_ a row has its cells one behind the other. -/
theorem ReadsRow.inner_ {α : Type} {R : α → List Value → Prop} {size : Nat} {w : World} {ad : Addr} {n : Nat} {ps : List α} (h : ReadsRow R size w (some ad) n ps) :
    ∃ inner, Reps R size ps inner ∧ ∀ j u, inner[j]? = some u → w.cell? (ad.add j) = some u := by
  have key : ∀ m, m ≤ ps.length → ∃ inner, Reps R size (ps.take m) inner ∧ ∀ j u, inner[j]? = some u → w.cell? (ad.add j) = some u := by
    intro m
    induction m with
    | zero => exact fun _ => ⟨[], Reps.none _ _, fun j u hu => by simp at hu⟩
    | succ m ih =>
      intro hm
      obtain ⟨inner, hr, hc⟩ := ih (by omega)
      obtain ⟨ad', he, hcell⟩ := h.2.2 (by have := h.1; omega)
      injection he with he
      subst he
      obtain ⟨c, hcl, hp, hcc⟩ := hcell m _ (List.getElem?_eq_getElem (show m < ps.length by omega))
      refine ⟨inner ++ c, ?_, fun j u hu => ?_⟩
      · rw [List.take_succ_eq_append_getElem (show m < ps.length by omega)]
        exact hr.snoc hp hcl
      · have hil : inner.length = m * size := by rw [hr.1, List.length_take, Nat.min_eq_left (by omega)]
        rcases Nat.lt_or_ge j inner.length with hj | hj
        · rw [List.getElem?_append_left hj] at hu
          exact hc j u hu
        · rw [List.getElem?_append_right hj] at hu
          have := hcc (j - inner.length) u hu
          rwa [hil, Nat.add_sub_cancel' (by omega)] at this
  obtain ⟨inner, hr, hc⟩ := key ps.length (Nat.le_refl _)
  rw [List.take_length] at hr
  exact ⟨inner, hr, hc⟩
section
variable {α : Type} {P : Program}
theorem ReadsOf.len_ {enc : α → Value} {d : α} {w : World} {A : Option Addr} {n : Nat} {xs : List α} (h : ReadsOf enc d w A n xs) : ReadsOf enc d w A xs.length xs := by rw [h.1]; exact h
end
section
variable {P : Program} {ops : Array Oper} {rest : List Oper} {o : Oper} {a : Act} {Q : Exit → Act → World → Prop}
end
/-- ok: which blocks the rows inside may be ('not the row that is being written'). -/
structure Kd (α : Type) where
  sz : Nat
  E : List Nat
  K : World → α → List Value → Prop
  M : World → Nat → (Nat → Prop) → α → List Value → Prop
  K_len : ∀ {w x cs}, K w x cs → cs.length = sz
  K_one : ∀ {w x cs}, K w x cs → ∀ u ∈ cs, u.oneCell' = true
  K_below : ∀ {w w1 : World} {x cs}, Below w.heap.size w w1 → K w x cs → K w1 x cs
  K_of_M : ∀ {w base ok x cs}, M w base ok x cs → K w x cs
  M_mono : ∀ {w base ok ok' x cs}, (∀ k, ok k → ok' k) → M w base ok x cs → M w base ok' x cs
  M_bound : ∀ {w : World} {base ok x cs}, M w base ok x cs → M w base (fun k => ok k ∧ base ≤ k ∧ k < w.heap.size ∧ ∃ q, q ∈ E ∧ ∃ cells, w.heap[k]? = some (.cells cells q (0, 0))) x cs
  M_move : ∀ {w w1 : World} {base ok x cs}, (∀ k, ok k → w1.heap[k]? = w.heap[k]?) → M w base ok x cs → M w1 base ok x cs
  M_lower : ∀ {w base base' ok x cs}, base' ≤ base → M w base ok x cs → M w base' ok x cs
theorem own_move {w w1 : World} {base : Nat} {e : TypeId} {size n : Nat} {v : Value} {xs : List Value} (h : w.ownsRow base e size v n xs) (hm : ∀ k, v.ownBlock = some k → w1.heap[k]? = w.heap[k]?) : w1.ownsRow base e size v n xs := by
  obtain ⟨h1, h2⟩ := h
  refine ⟨h1, ?_⟩
  rcases h2 with h2 | ⟨g, cap, cur, rfl, hg, hh, r⟩
  · exact .inl h2
  · exact .inr ⟨g, cap, cur, rfl, hg, (hm g (by simp [Value.ownBlock])).trans hh, r⟩
theorem own_typed {w : World} {base : Nat} {e : TypeId} {size n : Nat} {v : Value} {xs : List Value} (h : w.ownsRow base e size v n xs) (k : Nat) (hk : v.ownBlock = some k) : ∃ cells, w.heap[k]? = some (.cells cells e (0, 0)) := by
  rcases h.2 with ⟨rfl, _⟩ | ⟨g, cap, cur, rfl, hg, hh, r⟩
  · simp [Value.ownBlock] at hk
  · have : g = k := by simpa [Value.ownBlock] using hk
    subst this
    exact ⟨cur, hh⟩
namespace Kd
/-- A row of elements that is read. -/
def C {α : Type} (d : Kd α) (w : World) (A : Option Addr) (n : Nat) (xs : List α) : Prop := ReadsRow (d.K w) d.sz w A n xs
/-- A row of elements (type e) of the call's own; the elements' rows are not this one. -/
def R {α : Type} (d : Kd α) (e : Nat) (w : World) (base : Nat) (ok : Nat → Prop) (v : Value) (xs : List α) : Prop :=
  (∀ k, v.ownBlock = some k → ok k) ∧ OwnRow (d.M w base (fun k => ok k ∧ some k ≠ v.ownBlock)) e d.sz w base v xs
section
variable {α : Type} {d : Kd α} {e : Nat} {w w1 : World} {base : Nat} {ok ok' : Nat → Prop} {v : Value} {xs : List α}
theorem C_below {A : Option Addr} {n : Nat} (h : d.C w A n xs) (hb : Below w.heap.size w w1) : d.C w1 A n xs := ReadsRow.imp_ h hb (fun _ _ hp => d.K_below hb hp)
theorem R_nil (d : Kd α) (e : Nat) (w : World) (base : Nat) (ok : Nat → Prop) : d.R e w base ok (.slice none 0 0) [] := ⟨fun k hk => by simp [Value.ownBlock] at hk, OwnRow.none_ _ _ _ _ _⟩
theorem R_mono (h : d.R e w base ok v xs) (hok : ∀ k, ok k → ok' k) : d.R e w base ok' v xs := ⟨fun k hk => hok k (h.1 k hk), h.2.imp_ (fun _ _ hp => d.M_mono (fun k hk => ⟨hok k hk.1, hk.2⟩) hp)⟩
theorem R_bound (h : d.R e w base ok v xs) : d.R e w base (fun k => ok k ∧ base ≤ k ∧ k < w.heap.size ∧ ∃ q, q ∈ e :: d.E ∧ ∃ cells, w.heap[k]? = some (.cells cells q (0, 0))) v xs := by
  obtain ⟨h0, inner, ho, hr⟩ := h
  refine ⟨fun k hk => ?_, inner, ho, hr.imp_ (fun _ _ hp => d.M_mono (fun k hk => ?_) (d.M_bound hp))⟩
  · obtain ⟨cells, hc⟩ := own_typed ho k hk
    exact ⟨h0 k hk, own_base ho k hk, own_lt ho k hk, e, List.mem_cons_self, cells, hc⟩
  · obtain ⟨⟨h1, h2⟩, h3, h4, q, hq, hc⟩ := hk
    exact ⟨⟨h1, h3, h4, q, List.mem_cons_of_mem _ hq, hc⟩, h2⟩
theorem R_move (h : d.R e w base ok v xs) (hm : ∀ k, ok k → w1.heap[k]? = w.heap[k]?) : d.R e w1 base ok v xs := by
  obtain ⟨h0, inner, ho, hr⟩ := h
  exact ⟨h0, inner, own_move ho (fun k hk => hm k (h0 k hk)), hr.imp_ (fun _ _ hp => d.M_move (fun k hk => hm k hk.1) hp)⟩
theorem R_lower {base' : Nat} (h : d.R e w base ok v xs) (hb : base' ≤ base) : d.R e w base' ok v xs := by
  obtain ⟨h0, inner, ho, hr⟩ := h
  exact ⟨h0, inner, own_weaken ho hb, hr.imp_ (fun _ _ hp => d.M_lower hb hp)⟩
/-- Any mover: what is ok, and a block of w's, stays. -/
theorem R_step (h : d.R e w base ok v xs) (hm : ∀ k, ok k → k < w.heap.size → w1.heap[k]? = w.heap[k]?) : d.R e w1 base ok v xs :=
  R_mono (R_move (R_bound h) (fun k hk => hm k hk.1 hk.2.2.1)) (fun _ hk => hk.1)
theorem M_step {x : α} {cs : List Value} (h : d.M w base ok x cs) (hm : ∀ k, ok k → k < w.heap.size → w1.heap[k]? = w.heap[k]?) : d.M w1 base ok x cs :=
  d.M_mono (fun _ hk => hk.1) (d.M_move (fun k hk => hm k hk.1 hk.2.2.1) (d.M_bound h))
theorem R_below (h : d.R e w base ok v xs) (hb : Below w.heap.size w w1) : d.R e w1 base ok v xs := R_step h (fun k _ hk => hb.block k hk)
theorem M_below {x : α} {cs : List Value} (h : d.M w base ok x cs) (hb : Below w.heap.size w w1) : d.M w1 base ok x cs := M_step h (fun k _ hk => hb.block k hk)
theorem R_reads (h : d.R e w base ok v xs) : ∃ A c, v = .slice A xs.length c ∧ xs.length ≤ c ∧ d.C w A xs.length xs := by
  obtain ⟨A, c, he, hl, hr⟩ := OwnRow.reads h.2
  exact ⟨A, c, he, hl, hr.imp_ (Below.refl _ _) (fun _ _ hp => d.K_of_M hp)⟩
theorem R_slice (h : d.R e w base ok v xs) : ∃ A c, v = .slice A xs.length c := by
  obtain ⟨A, c, he, _⟩ := R_reads h
  exact ⟨A, c, he⟩
theorem R_own (h : d.R e w base ok v xs) : ∃ inner, w.ownsRow base e d.sz v xs.length inner := by
  obtain ⟨_, inner, ho, _⟩ := h
  exact ⟨inner, ho⟩
end
def scalar {α : Type} (enc : α → Value) (h1 : ∀ x, (enc x).oneCell' = true) : Kd α where
  sz := 1
  E := []
  K := fun _ x cs => cs = [enc x]
  M := fun _ _ _ x cs => cs = [enc x]
  K_len := fun h => by rw [h]; rfl
  K_one := fun h u hu => by
    rw [h] at hu
    rw [List.mem_singleton.1 hu]
    exact h1 _
  K_below := fun _ h => h
  K_of_M := fun h => h
  M_mono := fun _ h => h
  M_bound := fun h => h
  M_move := fun _ h => h
  M_lower := fun _ h => h
def int (k : IntKind) : Kd Int := scalar (Value.int k) (fun _ => rfl)
def bool : Kd Bool := scalar Value.bool (fun _ => rfl)
def string : Kd ByteArray := scalar Value.string (fun _ => rfl)
def slice {α : Type} (e : Nat) (d : Kd α) : Kd (List α) where
  sz := 1
  E := e :: d.E
  K := fun w xs cs => ∃ A c, cs = [.slice A xs.length c] ∧ xs.length ≤ c ∧ d.C w A xs.length xs
  M := fun w base ok xs cs => ∃ v, cs = [v] ∧ d.R e w base ok v xs
  K_len := by
    rintro w x cs ⟨A, c, rfl, _⟩
    rfl
  K_one := by
    rintro w x cs ⟨A, c, rfl, _⟩ u hu
    rw [List.mem_singleton.1 hu]
    rfl
  K_below := by
    rintro w w1 x cs hb ⟨A, c, rfl, hl, hr⟩
    exact ⟨A, c, rfl, hl, C_below hr hb⟩
  K_of_M := by
    rintro w base ok x cs ⟨v, rfl, h⟩
    obtain ⟨A, c, rfl, hl, hr⟩ := R_reads h
    exact ⟨A, c, rfl, hl, hr⟩
  M_mono := by
    rintro w base ok ok' x cs hok ⟨v, rfl, h⟩
    exact ⟨v, rfl, R_mono h hok⟩
  M_bound := by
    rintro w base ok x cs ⟨v, rfl, h⟩
    exact ⟨v, rfl, R_bound h⟩
  M_move := by
    rintro w w1 base ok x cs hm ⟨v, rfl, h⟩
    exact ⟨v, rfl, R_move h hm⟩
  M_lower := by
    rintro w base base' ok x cs hb ⟨v, rfl, h⟩
    exact ⟨v, rfl, R_lower h hb⟩
/-- Nothing is of this kind: where the nesting's depth is used up. -/
def bot {α : Type} (sz : Nat) (E : List Nat) : Kd α where
  sz := sz
  E := E
  K := fun _ _ _ => False
  M := fun _ _ _ _ _ => False
  K_len := fun h => h.elim
  K_one := fun h => h.elim
  K_below := fun _ h => h
  K_of_M := fun h => h
  M_mono := fun _ h => h
  M_bound := fun h => h
  M_move := fun _ h => h
  M_lower := fun _ h => h
/-- A type nested in itself: nested at most n deep .. -/
def upto {α : Type} (F : Kd α → Kd α) (sz : Nat) (E : List Nat) : Nat → Kd α
  | 0 => bot sz E
  | n + 1 => F (upto F sz E n)
/-- What an append leaves: the old elements' rows and the new one's are not the new row's block. -/
theorem R_appended {α : Type} {d : Kd α} {e base : Nat} {ok okp : Nat → Prop} {W w1 : World} {v v1 : Value} {xs : List α} {p : α} {inner cs : List Value} (h0 : ∀ k, v.ownBlock = some k → ok k) (hr : Reps (d.M W base (fun k => ok k ∧ some k ≠ v.ownBlock)) d.sz xs inner) (hp : d.M W base okp p cs) (hokp : ∀ k, okp k → ok k ∧ some k ≠ v.ownBlock) (hfresh : ∀ k, W.heap.size ≤ k → ok k)
    (hown : w1.ownsRow base e d.sz v1 (xs.length + 1) (inner ++ cs)) (hg : W.grownBy w1 v.ownBlock) (hat : v1.ownBlock = v.ownBlock ∨ ∃ b, v1.ownBlock = some b ∧ W.heap.size ≤ b) : d.R e w1 base ok v1 (xs ++ [p]) := by
  have hne : ∀ k, some k ≠ v.ownBlock → k < W.heap.size → some k ≠ v1.ownBlock := by
    intro k hk hlt
    rcases hat with hat | ⟨b, hb, hle⟩
    · rw [hat]; exact hk
    · rw [hb]
      intro he
      injection he with he
      omega
  have step : ∀ {q : α} {c : List Value} {o : Nat → Prop}, d.M W base o q c → (∀ k, o k → ok k ∧ some k ≠ v.ownBlock) → d.M w1 base (fun k => ok k ∧ some k ≠ v1.ownBlock) q c := by
    intro q c o hq ho
    have h1 := d.M_move (w1 := w1) (fun k hk => hg.block k hk.2.2.1 (ho k hk.1).2) (d.M_bound hq)
    exact d.M_mono (fun k hk => ⟨(ho k hk.1).1, hne k (ho k hk.1).2 hk.2.2.1⟩) h1
  refine ⟨fun k hk => ?_, inner ++ cs, by rw [List.length_append, List.length_singleton]; exact hown, ?_⟩
  · rcases hat with hat | ⟨b, hb, hle⟩
    · exact h0 k (hat ▸ hk)
    · rw [hb] at hk
      injection hk with hk
      exact hfresh k (by omega)
  · exact (hr.imp_ (fun _ _ hq => step hq (fun _ hk => hk))).snoc (step hp hokp) (d.K_len (d.K_of_M hp))
section
variable {P : Program} {ops : Array Oper} {rest : List Oper} {o : Oper} {a : Act} {Q : Exit → Act → World → Prop} {α : Type}
/-- append(v, x), behind 'at_builtin'; the goal's world is 'W.alloc' of the variadic's box; x's cells are cs, made (its rows satisfy okp). hfresh: a block that is new at W is ok. -/
theorem R_append (d : Kd α) {w0 W : World} (base : Nat) (hgd : o.guard = none) (s x : Operand) (t e : TypeId) (z : Value) (bytes : Nat)
    (ho : o.op = .call { callee := .builtin .append, args := #[s, x], argTypes := #[t, t] })
    (ht : P.underlying t = some (.slice e)) (hinfo : (P.info? e).map (fun i => (i.zero, i.size, i.bytes)) = some (some z, d.sz, bytes)) (hz : z.cells.size = d.sz) (hs0 : 0 < d.sz) (hb0 : 0 < bytes)
    (v : Value) (xs : List α) (p : α) (cs : List Value) (ok okp : Nat → Prop) (hs : a.eval s = v) (hx : a.eval x = .slice (some ⟨W.heap.size, 0, none⟩) 1 1) (hp : d.M W base okp p cs) (hokp : ∀ k, okp k → ok k ∧ some k ≠ v.ownBlock) (hfresh : ∀ k, W.heap.size ≤ k → ok k)
    (HO : d.R e W base ok v xs) (HB : Below base w0 W) (hbase : base ≤ W.heap.size) (hl : (xs.length + 1) * bytes ≤ 140737488355328)
    (h : ∀ v1 w1, d.R e w1 base ok v1 (xs ++ [p]) → Below base w0 w1 → W.grownBy w1 v.ownBlock → (v1.ownBlock = v.ownBlock ∨ ∃ b, v1.ownBlock = some b ∧ W.heap.size ≤ b) → wpList P ops Q rest (a.put o.dst v1) w1) :
    wpList P ops Q (o :: rest) a (W.alloc (.cells cs.toArray e)) := by
  obtain ⟨h0, inner, hown, hr⟩ := HO
  refine print_append_cells base hgd s x t e z d.sz bytes ho ht hinfo hz hs0 hb0 v xs.length inner cs hs hx (d.K_len (d.K_of_M hp)) (d.K_one (d.K_of_M hp)) hown HB hbase hl ?_
  intro v1 w1 hown1 hb1 hg1 hat1
  exact h v1 w1 (R_appended h0 hr hp hokp hfresh hown1 hg1 hat1) hb1 hg1 hat1
end
section
variable {P : Program} {ops : Array Oper} {o : Oper} {a : Act} {Q : Exit → Act → World → Prop} {Kc : Act → World → Prop} {α : Type}
end
/-- A row of scalars is the elder form. -/
theorem reps_scalar {α : Type} {enc : α → Value} (xs : List α) : Reps (fun (x : α) (cs : List Value) => cs = [enc x]) 1 xs (encs enc xs) := by
  refine ⟨by simp [encs], fun j p hj => ?_⟩
  obtain ⟨hl, hp⟩ := List.getElem?_eq_some_iff.1 hj
  have hl' : j < (encs enc xs).length := by rw [encs_length]; exact hl
  rw [Nat.mul_one, List.drop_eq_getElem_cons hl']
  simp [encs, hp]
theorem R_of_own {α : Type} {enc : α → Value} {h1 : ∀ x, (enc x).oneCell' = true} {e : Nat} {w : World} {base : Nat} {ok : Nat → Prop} {v : Value} {xs : List α} (ho : w.ownsRow base e 1 v xs.length (encs enc xs)) (hok : ∀ k, v.ownBlock = some k → ok k) : (scalar enc h1).R e w base ok v xs := ⟨hok, encs enc xs, ho, reps_scalar xs⟩
theorem own_of_R {α : Type} {enc : α → Value} {h1 : ∀ x, (enc x).oneCell' = true} {e : Nat} {w : World} {base : Nat} {ok : Nat → Prop} {v : Value} {xs : List α} (h : (scalar enc h1).R e w base ok v xs) : w.ownsRow base e 1 v xs.length (encs enc xs) := by
  obtain ⟨_, inner, ho, hr⟩ := h
  have : inner = encs enc xs := by
    apply List.ext_getElem?
    intro j
    rcases Nat.lt_or_ge j xs.length with hj | hj
    · have h2 := hr.2 j _ (List.getElem?_eq_getElem hj)
      have hl : j < inner.length := by have := hr.1; simp [scalar] at this; omega
      have h3 : (inner.drop (j * 1)).take 1 = [enc xs[j]] := h2
      rw [Nat.mul_one, List.drop_eq_getElem_cons hl] at h3
      have h4 : inner[j] = enc xs[j] := by
        have h5 := congrArg List.head? h3
        rw [List.take_succ_cons] at h5
        exact Option.some.inj h5
      rw [List.getElem?_eq_getElem hl, h4]
      simp [encs, List.getElem?_eq_getElem hj]
    · have h3 : inner.length = xs.length := by have := hr.1; simp [scalar] at this; omega
      rw [List.getElem?_eq_none (by omega), List.getElem?_eq_none (by rw [encs_length]; omega)]
  rw [← this]
  exact ho
theorem reads_of_C {α : Type} {enc : α → Value} {d : α} {h1 : ∀ x, (enc x).oneCell' = true} {w : World} {A : Option Addr} {n : Nat} {xs : List α} (h : (scalar enc h1).C w A n xs) : ReadsOf enc d w A n xs := by
  refine ⟨h.1, h.2.1, fun hn => ?_⟩
  obtain ⟨ad, e, hc⟩ := h.2.2 hn
  refine ⟨ad, e, fun j hj => ?_⟩
  have hl : j < xs.length := by have := h.1; omega
  obtain ⟨c, _, hK, hcell⟩ := hc j _ (List.getElem?_eq_getElem hl)
  have hK' : c = [enc xs[j]] := hK
  subst hK'
  have := hcell 0 _ rfl
  simpa [scalar, List.getD_eq_getElem?_getD, List.getElem?_eq_getElem hl] using this
end Kd
namespace Kd
/-- F says the more, the more its argument says. -/
structure Mono {α β : Type} (F : Kd α → Kd β) : Prop where
  sz : ∀ d d' : Kd α, d.sz = d'.sz → (F d).sz = (F d').sz
  K : ∀ d d' : Kd α, d.sz = d'.sz → (∀ w x cs, d.K w x cs → d'.K w x cs) → ∀ w x cs, (F d).K w x cs → (F d').K w x cs
  M : ∀ d d' : Kd α, d.sz = d'.sz → (∀ w base ok x cs, d.M w base ok x cs → d'.M w base ok x cs) → ∀ w base ok x cs, (F d).M w base ok x cs → (F d').M w base ok x cs
section
variable {α : Type} {F : Kd α → Kd α} {sz : Nat} {E : List Nat} {hs : ∀ n, (upto F sz E n).sz = sz} {hE : ∀ n q, q ∈ (upto F sz E n).E → q ∈ E}
end
end Kd
namespace Kd
/-- Behind an append to v (it left v1): what is held apart from v is held apart from v1. -/
theorem R_after {α : Type} {d : Kd α} {e base : Nat} {ok : Nat → Prop} {W w1 : World} {u v v1 : Value} {xs : List α} (h : d.R e W base (fun k => ok k ∧ some k ≠ v.ownBlock) u xs) (hg : W.grownBy w1 v.ownBlock) (hat : v1.ownBlock = v.ownBlock ∨ ∃ b, v1.ownBlock = some b ∧ W.heap.size ≤ b) : d.R e w1 base (fun k => ok k ∧ some k ≠ v1.ownBlock) u xs := by
  refine R_mono (R_move (R_bound h) (fun k hk => hg.block k hk.2.2.1 hk.1.2)) (fun k hk => ⟨hk.1.1, ?_⟩)
  rcases hat with hat | ⟨b, hb, hle⟩
  · rw [hat]; exact hk.1.2
  · rw [hb]
    intro he
    injection he with he
    have := hk.2.2.1
    omega
end Kd
namespace Kd
section
variable {α β : Type} {d : Kd α} {d' : Kd β} {e e' : Nat} {w w1 W : World} {base b b' : Nat} {ok ok' okv oku : Nat → Prop} {v u : Value} {xs : List α} {ys : List β}
theorem R_alloc (h : d.R e w base ok v xs) (o : Obj) : d.R e (w.alloc o) base ok v xs := R_below h (below_alloc (Below.refl _ _) o)
theorem R_drew (h : d.R e w base ok v xs) : d.R e w.drew base ok v xs := R_below h (below_drew (Below.refl _ _))
theorem R_drewN (h : d.R e w base ok v xs) (m : Nat) : d.R e (w.drewN m) base ok v xs := R_below h (pw_below_drewN (Below.refl _ _) m)
theorem C_alloc {A : Option Addr} {n : Nat} (h : d.C w A n xs) (o : Obj) : d.C (w.alloc o) A n xs := C_below h (below_alloc (Below.refl _ _) o)
theorem C_drew {A : Option Addr} {n : Nat} (h : d.C w A n xs) : d.C w.drew A n xs := C_below h (below_drew (Below.refl _ _))
theorem C_drewN {A : Option Addr} {n : Nat} (h : d.C w A n xs) (m : Nat) : d.C (w.drewN m) A n xs := C_below h (pw_below_drewN (Below.refl _ _) m)
theorem C_nil (d : Kd α) (w : World) : d.C w none ([] : List α).length [] := ⟨rfl, by simp, fun h => absurd h (Nat.lt_irrefl 0)⟩
theorem R_reads' {A : Option Addr} {n c : Nat} (h : d.R e w base ok (.slice A n c) xs) : n = xs.length ∧ n ≤ c ∧ d.C w A xs.length xs := by
  obtain ⟨A', c', he, hl, hr⟩ := R_reads h
  injection he with h1 h2 h3
  subst h1
  exact ⟨h2, by omega, hr⟩
theorem R_lt (h : d.R e w base ok v xs) : ∀ k, v.ownBlock = some k → k < w.heap.size := by
  obtain ⟨inner, ho⟩ := R_own h
  exact own_lt ho
theorem R_base (h : d.R e w base ok v xs) : ∀ k, v.ownBlock = some k → base ≤ k := by
  obtain ⟨inner, ho⟩ := R_own h
  exact own_base ho
theorem R_form (h : d.R e w base ok v xs) (hp : 0 < xs.length) : ∃ g cap, v = .slice (some ⟨g, 0, none⟩) xs.length cap ∧ base ≤ g ∧ g < w.heap.size ∧ ∃ cells, w.heap[g]? = some (.cells cells e (0, 0)) := by
  obtain ⟨inner, ho⟩ := R_own h
  obtain ⟨g, cap, he, hb, hl⟩ := ho.form hp
  obtain ⟨cells, hc⟩ := own_typed ho g (by rw [he]; simp [Value.ownBlock])
  exact ⟨g, cap, he, hb, hl, cells, hc⟩
end
section
variable {w W : World} {A : Option Addr} {n : Nat}
theorem at_string {xs : List ByteArray} (h : Kd.string.C w A n xs) (i : Int) (h0 : 0 ≤ i) (h1 : i < n) : ∃ ad, A = some ad ∧ w.cell? (ad.add i.toNat) = some (.string (rdOf ByteArray.empty xs i)) :=
  ReadsOf.at_ (reads_of_C (enc := Value.string) (d := ByteArray.empty) (h1 := fun _ => rfl) h) i h0 h1
variable {α : Type} {enc : α → Value} {h1 : ∀ x, (enc x).oneCell' = true} {e base g cap : Nat} {ok : Nat → Prop} {xs : List α}
theorem R_cell (d : α) (h : (scalar enc h1).R e W base ok (.slice (some ⟨g, 0, none⟩) xs.length cap) xs) (i : Int) (h0 : 0 ≤ i) (hi : i < xs.length) : W.cell? ⟨g, i.toNat, none⟩ = some (enc (rdOf d xs i)) ∧ W.frozen? ⟨g, i.toNat, none⟩ = false := own_at_of (own_of_R h) i h0 hi
theorem R_put (h : (scalar enc h1).R e W base ok (.slice (some ⟨g, 0, none⟩) xs.length cap) xs) (i : Int) (x : α) : (scalar enc h1).R e (W.setCell ⟨g, i.toNat, none⟩ (enc x)) base ok (.slice (some ⟨g, 0, none⟩) xs.length cap) (xs.set i.toNat x) ∧ W.grownBy (W.setCell ⟨g, i.toNat, none⟩ (enc x)) (some g) := by
  obtain ⟨ho, hg⟩ := own_store_of (own_of_R h) i x
  exact ⟨R_of_own (by rw [List.length_set]; exact ho) h.1, hg⟩
end
section
variable {P : Program} {ops : Array Oper} {rest : List Oper} {o : Oper} {a : Act} {Q : Exit → Act → World → Prop}
theorem event_run {W w1 : World} {v : Value} (hgd : o.guard = none) (hrun : (execOp a.eval o).run P W = .ok (.value v) w1) (h : wpList P ops Q rest (a.put o.dst v) w1) : wpList P ops Q (o :: rest) a W := by
  refine wpList_plain hgd fun K hK => ?_
  unfold Oper.wp
  rw [hrun]
  exact hK _ _ h
variable {α : Type}
/-- A literal '[]T{..}': inner its cells. 'hd' picks the operation; 'hrun' by '(by go_simp; rfl)'. -/
theorem R_lit (d : Kd α) {w0 W : World} (base e : Nat) (hgd : o.guard = none) {N : Tmp} (_hd : o.dst = some N) {xs : List α} {inner : List Value} {ok okp : Nat → Prop}
    (hrun : (execOp a.eval o).run P W = .ok (.value (.slice (some ⟨W.heap.size, 0, none⟩) xs.length xs.length)) (W.alloc (.cells inner.toArray e)))
    (hrep : Reps (d.M W base okp) d.sz xs inner) (hok : ∀ k, okp k → ok k) (hfresh : ok W.heap.size) (HB : Below base w0 W) (hbase : base ≤ W.heap.size) (hm : xs.length ≤ 9223372036854775807)
    (h : ∀ v1 w1, d.R e w1 base ok v1 xs → Below base w0 w1 → W.grownBy w1 none → (∃ b, v1.ownBlock = some b ∧ W.heap.size ≤ b) → wpList P ops Q rest (a.put o.dst v1) w1) : wpList P ops Q (o :: rest) a W := by
  refine event_run hgd hrun (h _ _ ⟨fun k hk => ?_, inner, ?_, ?_⟩ (HB.alloc hbase _) (World.grownBy_alloc W _ none) ⟨W.heap.size, by simp [Value.ownBlock], Nat.le_refl _⟩)
  · have : W.heap.size = k := by simpa [Value.ownBlock] using hk
    subst this
    exact hfresh
  · have h2 := World.ownsRow_lit (base := base) (e := e) (size := d.sz) W inner.toArray xs.length hbase (by simpa [maxLen] using hm) (by simpa using hrep.1)
    simpa using h2
  · refine hrep.imp_ (fun p c hp => d.M_mono (fun k hk => ⟨hok k hk.1, fun he => ?_⟩) (M_below (d.M_bound hp) (below_alloc (Below.refl _ _) _)))
    have h3 : k = W.heap.size := by simpa [Value.ownBlock] using he
    have := hk.2.2.1
    omega
theorem reps_made {α : Type} {R : α → List Value → Prop} {z : Value} {size : Nat} {z0 : α} (hz : z.cells.size = size) (hs : 0 < size) (h0 : R z0 z.cells.toList) (m : Nat) : Reps R size (List.replicate m z0) (madeCells z.cells (m * size)).toList := by
  refine ⟨by simp [size_madeCells], fun j p hj => ?_⟩
  obtain ⟨hjl, hp⟩ := List.getElem?_eq_some_iff.1 hj
  have hjm : j < m := by simpa using hjl
  have hp' : z0 = p := by simpa using hp
  subst hp'
  have hle : j * size + size ≤ m * size := by rw [← Nat.succ_mul]; exact Nat.mul_le_mul_right _ hjm
  have : ((madeCells z.cells (m * size)).toList.drop (j * size)).take size = z.cells.toList := by
    apply List.ext_getElem
    · simp [size_madeCells, hz]
      omega
    · intro i h1 h2
      have hi : i < size := by rw [Array.length_toList, hz] at h2; exact h2
      have hmod : (j * size + i) % size = i := by
        rw [Nat.mul_comm, Nat.mul_add_mod]
        exact Nat.mod_eq_of_lt hi
      simp [madeCells, hz, hmod]
      rw [getElem!_pos z.cells i (by omega)]
  rw [this]
  exact h0
/-- make([]T, n): every element is z0, whose cells are the type's zero's. -/
theorem R_make (d : Kd α) {w0 W : World} (base e : Nat) (hgd : o.guard = none) {N : Tmp} (hd : o.dst = some N) (t : TypeId) (x y : Operand) (ho : o.op = .makeSlice t x y) (n : Int) (hx : a.eval x = .int .i64 n) (hy : a.eval y = .int .i64 n)
    (ht : P.underlying t = some (.slice e)) (z : Value) (bytes : Nat) (hinfo : (P.info? e).map (fun i => (i.zero, i.size, i.bytes)) = some (some z, d.sz, bytes)) (hz : z.cells.size = d.sz) (hs0 : 0 < d.sz) (hb0 : 0 < bytes)
    (z0 : α) {ok okp : Nat → Prop} (hzero : d.M W base okp z0 z.cells.toList) (hok : ∀ k, okp k → ok k) (hfresh : ok W.heap.size) (h0 : 0 ≤ n) (hl : n.toNat * bytes ≤ 281474976710656) (HB : Below base w0 W) (hbase : base ≤ W.heap.size)
    (h : ∀ v1 w1, d.R e w1 base ok v1 (List.replicate n.toNat z0) → Below base w0 w1 → W.grownBy w1 none → (∃ b, v1.ownBlock = some b ∧ W.heap.size ≤ b) → wpList P ops Q rest (a.put o.dst v1) w1) : wpList P ops Q (o :: rest) a W := by
  obtain ⟨m, rfl⟩ := Int.eq_ofNat_of_zero_le h0
  simp only [Int.toNat_natCast] at hl h
  obtain ⟨i0, hi, hzz⟩ := Option.map_eq_some_iff.1 hinfo
  simp only [Prod.mk.injEq] at hzz
  obtain ⟨hz0, hz1, hz2⟩ := hzz
  have hm : m ≤ 281474976710656 := Nat.le_trans (Nat.le_mul_of_pos_right _ hb0) hl
  have hr := run_make (P := P) W t e i0 z ht hi hz0 .i64 .i64 (m : Int) (m : Int) (by omega) (by omega)
    (by
      have h3 : ((i0.bytes * m : Nat) : Int) ≤ 281474976710656 := by rw [hz2, Nat.mul_comm]; omega
      rwa [Int.natCast_mul] at h3) (by omega)
  simp only [Int.toNat_natCast] at hr
  rw [hz1] at hr
  refine R_lit d base e hgd hd (xs := List.replicate m z0) (inner := (madeCells z.cells (m * d.sz)).toList) (okp := okp) (ok := ok) ?_ (reps_made hz hs0 hzero m) hok hfresh HB hbase (by simp; omega) h
  simp [execOp, ho, hx, hy, hr]
end
end Kd
section
variable {P : Program}
end
/-- A row of one's own that may begin inside its block. -/
def QRow (w : World) (base : Nat) (e : TypeId) (size : Nat) (v : Value) (n : Nat) (xs : List Value) : Prop :=
  xs.length = n * size ∧
  ((n = 0 ∧ ∃ A, v = .slice A 0 0 ∧ ∀ a, A = some a → base ≤ a.block ∧ ∃ cur, w.heap[a.block]? = some (.cells cur e (0, 0))) ∨
   ∃ g off cap cur, v = .slice (some ⟨g, off * size, none⟩) n cap ∧ base ≤ g ∧ w.heap[g]? = some (.cells cur e (0, 0)) ∧ n ≤ cap ∧ off + cap ≤ maxLen ∧ cur.size = (off + cap) * size ∧ (cur.toList.drop (off * size)).take (n * size) = xs)
section
variable {w w1 : World} {base n size : Nat} {e : TypeId} {v : Value} {xs : List Value}
theorem q_of_own (h : w.ownsRow base e size v n xs) : QRow w base e size v n xs := by
  obtain ⟨h1, h2⟩ := h
  refine ⟨h1, ?_⟩
  rcases h2 with ⟨rfl, h0⟩ | ⟨g, cap, cur, rfl, hb, hh, hnc, hcm, hcs, ht⟩
  · exact .inl ⟨h0, none, rfl, fun a ha => by cases ha⟩
  · exact .inr ⟨g, 0, cap, cur, by rw [Nat.zero_mul], hb, hh, hnc, by rw [Nat.zero_add]; exact hcm, by rw [Nat.zero_add]; exact hcs, by rw [Nat.zero_mul, List.drop_zero]; exact ht⟩
theorem q_move (h : QRow w base e size v n xs) (hm : ∀ k, v.ownBlock = some k → w1.heap[k]? = w.heap[k]?) : QRow w1 base e size v n xs := by
  obtain ⟨h1, h2⟩ := h
  refine ⟨h1, ?_⟩
  rcases h2 with ⟨h0, A, rfl, hA⟩ | ⟨g, off, cap, cur, rfl, hg, hh, r⟩
  · refine .inl ⟨h0, A, rfl, fun a ha => ?_⟩
    obtain ⟨hb, cur, hc⟩ := hA a ha
    subst ha
    exact ⟨hb, cur, (hm a.block (by simp [Value.ownBlock])).trans hc⟩
  · exact .inr ⟨g, off, cap, cur, rfl, hg, (hm g (by simp [Value.ownBlock])).trans hh, r⟩
end
section
variable {P : Program}
end
namespace Kd
def Q {α : Type} (d : Kd α) (e : Nat) (w : World) (base : Nat) (ok : Nat → Prop) (v : Value) (xs : List α) : Prop :=
  (∀ k, v.ownBlock = some k → ok k) ∧ ∃ inner, QRow w base e d.sz v xs.length inner ∧ Reps (d.M w base (fun k => ok k ∧ some k ≠ v.ownBlock)) d.sz xs inner
section
variable {α : Type} {d : Kd α} {e : Nat} {w w1 W : World} {base : Nat} {ok ok' : Nat → Prop} {v : Value} {xs : List α}
theorem Q_of_R (h : d.R e w base ok v xs) : d.Q e w base ok v xs := by
  obtain ⟨h0, inner, ho, hr⟩ := h
  exact ⟨h0, inner, q_of_own ho, hr⟩
theorem Q_nil (d : Kd α) (e : Nat) (w : World) (base : Nat) (ok : Nat → Prop) : d.Q e w base ok (.slice none 0 0) [] := Q_of_R (R_nil d e w base ok)
end
section
variable {P : Program} {ops : Array Oper} {rest : List Oper} {o : Oper} {a : Act} {Q' : Exit → Act → World → Prop} {Kc : Act → World → Prop} {α : Type}
end
end Kd
namespace Kd
section
variable {α : Type} {d : Kd α} {e e' : Nat} {w w1 W : World} {base : Nat} {ok : Nat → Prop} {u v : Value} {xs : List α}
theorem R_elder' (hu : d.R e W base ok u xs) (hbase : ∀ k, v.ownBlock = some k → W.heap.size ≤ k) (hb : Below W.heap.size W w1) : d.R e w1 base (fun k => ok k ∧ some k ≠ v.ownBlock) u xs :=
  R_mono (R_move (R_bound hu) (fun k hk => hb.block k hk.2.2.1)) (fun k hk => ⟨hk.1, fun he => by have := hbase k he.symm; have := hk.2.2.1; omega⟩)
theorem R_new' (h : d.R e w1 W.heap.size ok v xs) (hlt : ∀ k, u.ownBlock = some k → k < W.heap.size) : d.R e w1 W.heap.size (fun k => ok k ∧ some k ≠ u.ownBlock) v xs :=
  R_mono (R_bound h) (fun k hk => ⟨hk.1, fun he => by have := hlt k he.symm; have := hk.2.1; omega⟩)
theorem fresh' (hlt : ∀ k, u.ownBlock = some k → k < W.heap.size) : ∀ k, W.heap.size ≤ k → some k ≠ u.ownBlock := fun k hk he => by have := hlt k he.symm; omega
end
end Kd
namespace Kd
section
variable {α : Type} {d : Kd α} {e base g n cap : Nat} {ok okp : Nat → Prop} {W : World} {xs : List α}
end
end Kd
namespace Kd
section
variable {α : Type} {F : Kd α → Kd α} {sz : Nat} {E : List Nat} {hs : ∀ n, (upto F sz E n).sz = sz} {hE : ∀ n q, q ∈ (upto F sz E n).E → q ∈ E}
end
end Kd
namespace Kd
theorem reps_append {α : Type} {R : α → List Value → Prop} {size : Nat} {ps qs : List α} {cs ds : List Value} (h : Reps R size ps cs) (h' : Reps R size qs ds) : Reps R size (ps ++ qs) (cs ++ ds) := by
  refine ⟨by rw [List.length_append, List.length_append, h.1, h'.1, Nat.add_mul], fun j p hj => ?_⟩
  rcases Nat.lt_or_ge j ps.length with hlt | hge
  · rw [List.getElem?_append_left hlt] at hj
    have hle : j * size + size ≤ cs.length := by rw [h.1, ← Nat.succ_mul]; exact Nat.mul_le_mul_right _ hlt
    rw [List.drop_append_of_le_length (by omega), List.take_append_of_le_length (by rw [List.length_drop]; omega)]
    exact h.2 j p hj
  · rw [List.getElem?_append_right hge] at hj
    have h2 := h'.2 (j - ps.length) p hj
    have hle : ps.length * size ≤ j * size := Nat.mul_le_mul_right _ hge
    rw [List.drop_append, List.drop_eq_nil_of_le (by rw [h.1]; exact hle), List.nil_append, h.1, ← Nat.sub_mul]
    exact h2
section
variable {P : Program} {ops : Array Oper} {rest : List Oper} {o : Oper} {a : Act} {Q : Exit → Act → World → Prop} {α : Type}
end
end Kd
namespace Kd
section
variable {P : Program} {ops : Array Oper} {rest : List Oper} {o : Oper} {a : Act} {Q : Exit → Act → World → Prop} {α : Type}
end
end Kd
theorem add_add (a : Addr) (i j : Nat) : (a.add i).add j = a.add (i + j) := by
  unfold Addr.add
  by_cases h1 : i = 0 <;> by_cases h2 : j = 0 <;> simp [h1, h2, Nat.add_assoc]
namespace Kd
section
variable {α : Type} {k : Kd α} {w : World} {A : Option Addr} {xs : List α} {m c : Nat}
end
end Kd
section
variable {P : Program}
end
theorem below_size {w W : World} (h : Below w.heap.size w W) : w.heap.size ≤ W.heap.size := h.size
theorem below_step {w W w2 : World} (h : Below w.heap.size w W) (k : Below W.heap.size W w2) : Below w.heap.size w w2 := below_then h h.size k
theorem below_set {w W : World} {g j : Nat} {v : Value} (h : Below w.heap.size w W) (hg : w.heap.size ≤ g) : Below w.heap.size w (W.setCell ⟨g, j, none⟩ v) := h.setCell hg _
theorem keep_cell {w W : World} {g : Nat} (h : KeepBut w W g none) {a : Addr} {v : Value} (hc : w.cell? a = some v) (hne : a.block ≠ g) : W.cell? a = some v := by
  have := h.2 a.block (World.block_lt_of_cell? w a hc) hne (by simp)
  simpa [World.cell?, this] using hc
theorem add_block (a : Addr) (i : Nat) : (a.add i).block = a.block := by unfold Addr.add; split <;> rfl
theorem ReadsOf.nil {α : Type} (enc : α → Value) (d : α) (W : World) : ReadsOf enc d W none ([] : List α).length [] := ⟨rfl, by simp, fun h => absurd h (Nat.lt_irrefl 0)⟩
theorem ReadsOf.drewN {α : Type} {enc : α → Value} {d : α} {W : World} {A : Option Addr} {n : Nat} {xs : List α} (h : ReadsOf enc d W A n xs) (m : Nat) : ReadsOf enc d (W.drewN m) A n xs := h
theorem ReadsOf.keep {α : Type} {enc : α → Value} {d : α} {w W : World} {A : Option Addr} {n g : Nat} {xs : List α} (h : ReadsOf enc d w A n xs) (hk : KeepBut w W g none) (hf : ∀ ad, A = some ad → 0 < n → ad.block ≠ g) : ReadsOf enc d W A n xs :=
  ⟨h.1, h.2.1, fun hn => by
    obtain ⟨ad, e, hc⟩ := h.2.2 hn
    exact ⟨ad, e, fun j hj => keep_cell hk (hc j hj) (by rw [add_block]; exact hf ad e hn)⟩⟩
theorem below_drew1 {base : Nat} {w W : World} (h : Below base w W) : Below base w W.drew := h.drew
namespace Kd
section
variable {α β : Type} {d : Kd α} {d' : Kd β} {e e' base base' n : Nat} {ok ok' : Nat → Prop} {w W w1 W1 : World} {v u : Value} {xs : List α} {ys : List β} {A : Option Addr} {c : Nat}
end
section
variable {α : Type} {enc : α → Value} {h1 : ∀ x, (enc x).oneCell' = true} {w W : World} {A : Option Addr} {n g : Nat} {xs : List α}
end
end Kd
namespace Kd
section
variable {α : Type} {d : Kd α} {e base g : Nat} {ok : Nat → Prop} {w w1 : World} {v : Value} {xs : List α} {o : Obj}
end
end Kd
section
variable {P : Program} {ops : Array Oper} {rest : List Oper} {o : Oper} {a : Act} {Q : Exit → Act → World → Prop}
end
namespace Kd
section
variable {α : Type} {enc : α → Value} {h1 : ∀ x, (enc x).oneCell' = true} {e base g n cap : Nat} {ok : Nat → Prop} {W : World} {xs : List α}
theorem R_celln (d : α) (h : (scalar enc h1).R e W base ok (.slice (some ⟨g, 0, none⟩) n cap) xs) (i : Int) (h0 : 0 ≤ i) (hi : i < n) : W.cell? ⟨g, i.toNat, none⟩ = some (enc (rdOf d xs i)) ∧ W.frozen? ⟨g, i.toNat, none⟩ = false := by
  obtain ⟨rfl, _⟩ := R_reads' h
  exact R_cell d h i h0 hi
theorem R_putn (h : (scalar enc h1).R e W base ok (.slice (some ⟨g, 0, none⟩) n cap) xs) (i : Int) (x : α) : (scalar enc h1).R e (W.setCell ⟨g, i.toNat, none⟩ (enc x)) base ok (.slice (some ⟨g, 0, none⟩) n cap) (xs.set i.toNat x) := by
  obtain ⟨rfl, _⟩ := R_reads' h
  exact (R_put h i x).1
end
end Kd
section
variable {P : Program} {ops : Array Oper} {rest : List Oper} {o : Oper} {a : Act} {Q : Exit → Act → World → Prop}
theorem store_event {W w1 : World} (hgd : o.guard = none) {t : TypeId} {p : Tmp} {v : Operand} (_ho : o.op = .store t (.tmp p) v) (hN : o.dst = none)
    (hrun : (execOp a.eval o).run P W = .ok .skip w1) (h : ∀ w', w' = w1 → wpList P ops Q rest a w') : wpList P ops Q (o :: rest) a W := by
  refine wpList_plain hgd fun K hK => ?_
  unfold Oper.wp
  rw [hrun]
  show K (a.put o.dst undef) w1
  rw [hN]
  exact hK _ _ (h _ rfl)
end
namespace Kd
section
variable {α : Type} {enc : α → Value} {h1 : ∀ x, (enc x).oneCell' = true} {e base g n cap : Nat} {ok : Nat → Prop} {W : World} {xs : List α}
theorem R_putg (h : (scalar enc h1).R e W base ok (.slice (some ⟨g, 0, none⟩) n cap) xs) (i : Int) (x : α) : (scalar enc h1).R e (W.setCell ⟨g, i.toNat, none⟩ (enc x)) base ok (.slice (some ⟨g, 0, none⟩) n cap) (xs.set i.toNat x) ∧ W.grownBy (W.setCell ⟨g, i.toNat, none⟩ (enc x)) (some g) := by
  obtain ⟨rfl, _⟩ := R_reads' h
  exact R_put h i x
end
end Kd
section
variable {P : Program} {ops : Array Oper} {rest : List Oper} {o : Oper} {a : Act} {Q : Exit → Act → World → Prop} {W : World}
theorem gate_dst {N : Tmp} (_hN : o.dst = some N) (h : wpList P ops Q (o :: rest) a W) : wpList P ops Q (o :: rest) a W := h
theorem gate_store {t : TypeId} {p : Tmp} {v : Operand} (_ho : o.op = .store t (.tmp p) v) (h : wpList P ops Q (o :: rest) a W) : wpList P ops Q (o :: rest) a W := h
end
section
variable {P : Program} {ops : Array Oper} {o : Oper} {a : Act} {Q : Exit → Act → World → Prop} {Kc : Act → World → Prop}
theorem event_step {W w1 : World} {v : Value} (hw : Region.wanted o (yielded ops a.tmps) = true) (hrun : (execOp a.eval o).run P W = .ok (.value v) w1) (h : Kc (a.put o.dst v) w1) : if Region.wanted o (yielded ops a.tmps) = true then Oper.wp P o a W Kc Q else Kc (a.put o.dst undef) W := by
  rw [if_pos hw]
  unfold Oper.wp
  rw [hrun]
  exact h
namespace Kd
variable {α : Type}
theorem R_lit_step (d : Kd α) {w0 W : World} (base e : Nat) (hw : Region.wanted o (yielded ops a.tmps) = true) {N : Tmp} (_hd : o.dst = some N) {xs : List α} {inner : List Value} {ok okp : Nat → Prop}
    (hrun : (execOp a.eval o).run P W = .ok (.value (.slice (some ⟨W.heap.size, 0, none⟩) xs.length xs.length)) (W.alloc (.cells inner.toArray e)))
    (hrep : Reps (d.M W base okp) d.sz xs inner) (hok : ∀ k, okp k → ok k) (hfresh : ok W.heap.size) (HB : Below base w0 W) (hbase : base ≤ W.heap.size) (hm : xs.length ≤ 9223372036854775807)
    (h : ∀ v1 w1, d.R e w1 base ok v1 xs → Below base w0 w1 → W.grownBy w1 none → (∃ b, v1.ownBlock = some b ∧ W.heap.size ≤ b) → Kc (a.put o.dst v1) w1) : if Region.wanted o (yielded ops a.tmps) = true then Oper.wp P o a W Kc Q else Kc (a.put o.dst undef) W := by
  refine event_step hw hrun (h _ _ ⟨fun k hk => ?_, inner, ?_, ?_⟩ (HB.alloc hbase _) (World.grownBy_alloc W _ none) ⟨W.heap.size, by simp [Value.ownBlock], Nat.le_refl _⟩)
  · have : W.heap.size = k := by simpa [Value.ownBlock] using hk
    subst this
    exact hfresh
  · have h2 := World.ownsRow_lit (base := base) (e := e) (size := d.sz) W inner.toArray xs.length hbase (by simpa [maxLen] using hm) (by simpa using hrep.1)
    simpa using h2
  · refine hrep.imp_ (fun p c hp => d.M_mono (fun k hk => ⟨hok k hk.1, fun he => ?_⟩) (M_below (d.M_bound hp) (below_alloc (Below.refl _ _) _)))
    have h3 : k = W.heap.size := by simpa [Value.ownBlock] using he
    have := hk.2.2.1
    omega
theorem R_append_rows_step (d : Kd α) {Rr : α → List Value → Prop} {w0 W : World} (base : Nat) (hw : Region.wanted o (yielded ops a.tmps) = true) (s x : Operand) (t e : TypeId) (z : Value) (bytes : Nat)
    (ho : o.op = .call { callee := .builtin .append, args := #[s, x], argTypes := #[t, t] })
    (ht : P.underlying t = some (.slice e)) (hinfo : (P.info? e).map (fun i => (i.zero, i.size, i.bytes)) = some (some z, d.sz, bytes)) (hz : z.cells.size = d.sz) (hs0 : 0 < d.sz) (hb0 : 0 < bytes)
    (v : Value) (xs ys : List α) (A : Option Addr) (m c : Nat) (ok okp : Nat → Prop) (hs : a.eval s = v) (hx : a.eval x = .slice A m c)
    (HO : d.R e W base ok v xs) (HR : ReadsRow Rr d.sz W A m ys) (hKM : ∀ x cs, Rr x cs → d.M W base okp x cs) (hokp : ∀ k, okp k → ok k ∧ some k ≠ v.ownBlock) (hfresh : ∀ k, W.heap.size ≤ k → ok k)
    (HB : Below base w0 W) (hbase : base ≤ W.heap.size) (hl : (xs.length + m) * bytes ≤ 140737488355328)
    (h : ∀ v1 w1, d.R e w1 base ok v1 (xs ++ ys) → Below base w0 w1 → W.grownBy w1 v.ownBlock → (v1.ownBlock = v.ownBlock ∨ ∃ b, v1.ownBlock = some b ∧ W.heap.size ≤ b) → Kc (a.put o.dst v1) w1) :
    if Region.wanted o (yielded ops a.tmps) = true then Oper.wp P o a W Kc Q else Kc (a.put o.dst undef) W := by
  obtain ⟨i0, hi, hzz⟩ := Option.map_eq_some_iff.1 hinfo
  simp only [Prod.mk.injEq] at hzz
  obtain ⟨hz0, hz1, hz2⟩ := hzz
  have hm : ys.length = m := HR.1
  have hlen : xs.length + m ≤ 140737488355328 := Nat.le_trans (Nat.le_mul_of_pos_right _ hb0) hl
  obtain ⟨hok, inner, hown, hr⟩ := HO
  have hrun : ∃ v1 w1, (Builtin.append_ #[t, t] o.type #[v, .slice A m c]).run P W = .ok v1 w1 ∧ d.R e w1 base ok v1 (xs ++ ys) ∧ W.grownBy w1 v.ownBlock ∧ (v1.ownBlock = v.ownBlock ∨ ∃ b, v1.ownBlock = some b ∧ W.heap.size ≤ b) := by
    rcases A with _ | ad
    · have h0 : m = 0 := by
        rcases Nat.eq_zero_or_pos m with h0 | h0
        · exact h0
        · obtain ⟨ad, h, _⟩ := HR.2.2 h0
          cases h
      subst h0
      obtain rfl : ys = [] := List.eq_nil_of_length_eq_zero hm
      refine ⟨v, W, ?_, by rw [List.append_nil]; exact ⟨hok, inner, hown, hr⟩, World.grownBy.refl W _, .inl rfl⟩
      rcases hown.2 with ⟨rfl, hn⟩ | ⟨g, cap, cur, rfl, _, _, hnc, _⟩
      · simp [Builtin.append_, run_underlying ht, sizeOf, typeInfo, hi, Builtin.lenOf, Builtin.firstCells]
      · simp [Builtin.append_, run_underlying ht, sizeOf, typeInfo, hi, Builtin.lenOf, Builtin.firstCells, hnc, storeCells]
    · obtain ⟨news, hnr, hnc⟩ := ReadsRow.inner_ HR
      have hnM : Reps (d.M W base okp) d.sz ys news := hnr.imp_ (fun p c hp => hKM p c hp)
      have hone : ∀ u ∈ news, u.oneCell' = true := by
        intro u hu
        obtain ⟨q, hq, rfl⟩ := List.mem_iff_getElem.1 hu
        have hql : q / d.sz < ys.length := by
          rw [Nat.div_lt_iff_lt_mul hs0]
          rw [← hnM.1]
          exact hq
        have hc := hnM.2 (q / d.sz) _ (List.getElem?_eq_getElem hql)
        refine d.K_one (d.K_of_M hc) _ ?_
        rw [List.mem_iff_getElem?]
        refine ⟨q % d.sz, ?_⟩
        rw [List.getElem?_take, if_pos (Nat.mod_lt _ hs0), List.getElem?_drop, Nat.mul_comm, Nat.div_add_mod, List.getElem?_eq_getElem hq]
      obtain ⟨v1, w1, hrun, h2, hg, _, hat⟩ := run_append_own_at (P := P) W base t o.type e i0 z d.sz bytes ht hi hz0 hz1 hz2 hz hs0 v xs.length inner hown ad m c news (by rw [hnM.1, hm]) hnc hone (by simp only [maxLen]; omega) hl hbase
      have hat' : v1.ownBlock = v.ownBlock ∨ ∃ b, v1.ownBlock = some b ∧ W.heap.size ≤ b := by
        rcases hat with hat | hat
        · exact .inl hat
        · exact .inr ⟨_, hat, Nat.le_refl _⟩
      have hne : ∀ k, some k ≠ v.ownBlock → k < W.heap.size → some k ≠ v1.ownBlock := by
        intro k hk hlt
        rcases hat' with hat | ⟨b, hb, hle⟩
        · rw [hat]; exact hk
        · rw [hb]
          intro he
          injection he with he
          omega
      have step : ∀ {q : α} {c : List Value} {o : Nat → Prop}, d.M W base o q c → (∀ k, o k → ok k ∧ some k ≠ v.ownBlock) → d.M w1 base (fun k => ok k ∧ some k ≠ v1.ownBlock) q c := by
        intro q c o hq ho
        have h1 := d.M_move (w1 := w1) (fun k hk => hg.block k hk.2.2.1 (ho k hk.1).2) (d.M_bound hq)
        exact d.M_mono (fun k hk => ⟨(ho k hk.1).1, hne k (ho k hk.1).2 hk.2.2.1⟩) h1
      refine ⟨v1, w1, hrun, ⟨fun k hk => ?_, inner ++ news, by rw [List.length_append, hm]; exact h2, reps_append (hr.imp_ (fun _ _ hq => step hq (fun _ hk => hk))) (hnM.imp_ (fun _ _ hq => step hq hokp))⟩, hg, hat'⟩
      rcases hat' with hat | ⟨b, hb, hle⟩
      · exact hok k (hat ▸ hk)
      · rw [hb] at hk
        injection hk with hk
        exact hfresh k (by omega)
  obtain ⟨v1, w1, hr1, h1, hg, hat⟩ := hrun
  rw [if_pos hw]
  unfold Oper.wp execOp
  simp only [ho, resolve, invoke, builtin, Sem.run_bind, Sem.run_pure, Result.andThen_ok, List.map_toArray, List.map_cons, List.map_nil, hs, hx, hr1]
  exact h v1 w1 h1 (HB.grown hg hbase (own_base hown)) hg hat
end Kd
end
inductive Vals (P : Program) (tmps : Array Value) (w : World) : List ResultVar → List Value → Prop where
  | nil : Vals P tmps w [] []
  | tmp {u : Tmp} {rs : List ResultVar} {vs : List Value} (h : Vals P tmps w rs vs) : Vals P tmps w (.tmp u :: rs) (tmps.getD u undef :: vs)
  | cell {p : Tmp} {ty : TypeId} {rs : List ResultVar} {vs : List Value} (g : Nat) (t : TypeId) (cs : Array Value) (fr : Nat × Nat) (d : TypeDesc)
      (hp : tmps.getD p undef = .pointer (some ⟨g, 0, none⟩)) (hg : w.heap[g]? = some (.cells cs t fr))
      (hu : P.underlying ty = some d) (hd : (match d with | .struct _ | .array _ _ => true | _ => false) = true) (hi : (P.info? ty).map (·.size) = some cs.size)
      (h : Vals P tmps w rs vs) : Vals P tmps w (.cell p ty :: rs) (.agg cs :: vs)
section
variable {P : Program} {tmps : Array Value} {w : World}
end
namespace Kd
section
variable {P : Program} {α : Type}
end
section
variable {P : Program} {ops : Array Oper} {rest : List Oper} {o : Oper} {a : Act} {Q : Exit → Act → World → Prop} {Kc : Act → World → Prop} {α : Type}
end
end Kd
end Go.Proofs.YtnhchnlgleokoaaDoorW.PrintWords
end
/-! Q7 -/
section
namespace Go.Proofs.YtnhchnlgleokoaaDoor.Q
open Go.RowKit
open Go.Proofs.YtnhchnlgleokoaaDoorW.PrintWords (bytesOf bytesOf_length)
section
variable {P : Program} {Q : Exit → Act → World → Prop} {a : Act} {w : World} {o : Oper} {ops : Array Oper} {rest : List Oper} {K : Act → Prop} {C : World → Prop}
theorem run_newRow {e : TypeId} {cs : Array Value} (w : World) : (newRow e cs).run P w = .ok ⟨w.heap.size, 0, none⟩ (w.alloc (.cells cs e)) := rfl
end
end Go.Proofs.YtnhchnlgleokoaaDoor.Q
end
/-! Q8 -/
section
namespace Go.Proofs.YtnhchnlgleokoaaDoor.Q
open Go.RowKit
section
variable {P : Program} {Q : Exit → Act → World → Prop} {a : Act} {w : World} {o : Oper} {ops : Array Oper} {rest : List Oper}
/-- a post for one operation alone -/
def Just (post : Act → World → Prop) : Exit → Act → World → Prop
  | .normal, a, w => post a w
  | _, _, _ => False
theorem wp_just {post : Act → World → Prop} (h : wpList P ops (Just post) [o] a w) (hg : o.guard = none) : o.wp P a w post Q := by
  unfold wpList at h
  rw [if_pos (by simp [Region.wanted, hg])] at h
  rcases h with h | ⟨_, ⟨_, _, h⟩⟩
  · unfold Oper.wp at h ⊢
    generalize (execOp a.eval o).run P w = r at *
    cases r with
    | ok n w' =>
      cases n <;> simp only [Oper.upon] at h ⊢
      all_goals first
        | exact h
        | exact Calls.mono h (fun e w'' he => by cases e with | returned v => exact he | panicked c => exact he.elim | outgrown => obtain ⟨_, _, hf⟩ := he; exact hf.elim)
        | exact Rows.mono h (fun _ _ he => he)
    | halt x w' => cases x <;> simp only [Oper.upon] at h ⊢ <;> exact h.elim
  · exact h.elim
structure Inv2 (l : List Oper) (T : Nat → Value → World → Prop) (R : World → World → Prop) (N : Nat) (a0 : Act) (W : World) (L : Array Bool) (a : Act) (w : World) : Prop where
  fr : Fr N a
  rel : R W w
  keep : ∀ t v, (∀ i, dstOf l i ≠ some t) → At a0 t v → At a t v
  told : ∀ i d, Has L i → dstOf l i = some d → ∃ v, At a d v ∧ T i v w
def StepS (P : Program) (l : List Oper) (T : Nat → Value → World → Prop) (R : World → World → Prop) (N : Nat) (a0 : Act) (W : World) (i : Nat) (o : Oper) : Prop :=
  ∃ d, o.dst = some d ∧ Nat.blt d N = true ∧ ∀ a w, Fr N a → R W w → (∀ t u, notDst l t = true → At a0 t u → At a t u) → (∀ j d, depB o j = true → dstAt l j = some d → ∃ v, At a d v ∧ T j v w) →
    wpList P #[] (Just fun a' w' => ∃ v, a' = a.put o.dst v ∧ R w w' ∧ T i v w') [o] a w
def AllS (P : Program) (l : List Oper) (T : Nat → Value → World → Prop) (R : World → World → Prop) (N : Nat) (a0 : Act) (W : World) : Nat → List Oper → Prop
  | k, o :: r => StepS P l T R N a0 W k o ∧ AllS P l T R N a0 W (k + 1) r
  | _, [] => True
theorem allS_cons {l : List Oper} {T : Nat → Value → World → Prop} {R : World → World → Prop} {N : Nat} {a0 : Act} {W : World} {k : Nat} {o : Oper} {r : List Oper} (h : StepS P l T R N a0 W k o) (h' : AllS P l T R N a0 W (k + 1) r) : AllS P l T R N a0 W k (o :: r) := ⟨h, h'⟩
theorem allS_nil {l : List Oper} {T : Nat → Value → World → Prop} {R : World → World → Prop} {N : Nat} {a0 : Act} {W : World} {k : Nat} : AllS P l T R N a0 W k [] := trivial
theorem stepS {l : List Oper} {T : Nat → Value → World → Prop} {R : World → World → Prop} {N : Nat} {a0 : Act} {W : World} {i : Nat} {o : Oper} (d : Nat) (h1 : o.dst = some d) (h2 : Nat.blt d N = true)
    (h : ∀ a w, Fr N a → R W w → (∀ t u, notDst l t = true → At a0 t u → At a t u) → (∀ j d, depB o j = true → dstAt l j = some d → ∃ v, At a d v ∧ T j v w) → wpList P #[] (Just fun a' w' => ∃ v, a' = a.put o.dst v ∧ R w w' ∧ T i v w') [o] a w) : StepS P l T R N a0 W i o := ⟨d, h1, h2, h⟩
/-- a quiet operation, its value known -/
theorem stepS_val {l : List Oper} {T : Nat → Value → World → Prop} {R : World → World → Prop} {N : Nat} {a0 : Act} {W : World} {i : Nat} {o : Oper} (v : Value) (d : Nat) (h1 : o.dst = some d) (h2 : Nat.blt d N = true) (hg : o.guard = none) (hR : ∀ w, R w w) (hT : ∀ w, T i v w)
    (h : ∀ a w, Fr N a → R W w → (∀ t u, notDst l t = true → At a0 t u → At a t u) → (∀ j d, depB o j = true → dstAt l j = some d → ∃ v, At a d v ∧ T j v w) → o.quiet P a (fun W' => W' = w) (fun a' => a' = a.put o.dst v)) : StepS P l T R N a0 W i o :=
  ⟨d, h1, h2, fun a w hz hr hk hn => l_q hg (Oper.quiet_mono (fun a' he => l_end ⟨v, he, hR w, hT w⟩) (h a w hz hr hk hn))⟩
theorem allS_spec {l : List Oper} {T : Nat → Value → World → Prop} {R : World → World → Prop} {N : Nat} {W : World} : ∀ (r : List Oper) (k0 : Nat), AllS P l T R N a W k0 r → ∀ k o, r[k]? = some o → StepS P l T R N a W (k0 + k) o
  | [], _, _, k, o, h => by simp at h
  | o :: r, k0, h, k, o', ho => by
    cases k with
    | zero =>
      simp only [List.getElem?_cons_zero, Option.some.injEq] at ho
      subst ho
      exact h.1
    | succ k =>
      have := allS_spec r (k0 + 1) h.2 k o' (by simpa using ho)
      rwa [show k0 + 1 + k = k0 + (k + 1) from by omega] at this
/-- the same, with operations behind that go one by one -/
structure Inv3 (l : List Oper) (n : Nat) (T : Nat → Value → World → Prop) (R : World → World → Prop) (N : Nat) (a0 : Act) (W : World) (L : Array Bool) (a : Act) (w : World) : Prop where
  inv : Inv2 (l.take n) T R N a0 W L a w
  shut : ∀ j o, l[j]? = some o → Has L j → ∀ e ∈ o.after, Region.binds .any e = true → Has L e.on
  tail : ∀ t, n ≤ t → t < l.length → ¬ Has L t
theorem not_has {L : Array Bool} {i : Nat} (h : L.getD i true = false) : ¬ Has L i := fun h' => by unfold Has at h'; rw [getD_both h] at h'; cases h'
theorem region_some_tail {id : Nat} {W : World} {l : List Oper} {N : Nat} (n : Nat) (T : Nat → Value → World → Prop) (R : World → World → Prop) (hm : P.follows .mixedOrders = true)
    (hB : (backB .any l.toArray && plainB l && distB (l.take n) && decide (n < l.length) && Region.sinkB .any l.toArray n && Region.chainB .any l.toArray n) = true) (z : Fr N a)
    (hR0 : R W { W with drawn := W.drawn + 1 }) (hRt : ∀ a b c, R a b → R b c → R a c) (hT : ∀ i v w w', T i v w → R w w' → T i v w') (H : AllS P (l.take n) T R N a W 0 (l.take n))
    (done : ∀ a' w', Fr N a' → R W w' → (∀ t v, notDst (l.take n) t = true → At a t v → At a' t v) → (∀ i d, dstAt (l.take n) i = some d → ∃ v, At a' d v ∧ T i v w') → wpList P l.toArray Q (l.drop n) a' w') : (Code.region id l.toArray true).wp P Q a W := by
  simp only [Bool.and_eq_true, decide_eq_true_eq] at hB
  obtain ⟨⟨⟨⟨⟨hb, hp⟩, hd⟩, hn⟩, hs⟩, hc⟩ := hB
  have hnl : (l.take n).length = n := by rw [List.length_take]; omega
  have htake : ∀ i, i < n → (l.take n)[i]? = l[i]? := fun i hi => by rw [List.getElem?_take, if_pos hi]
  have hchain : ∀ t, n < t → t < l.length → ∃ o, l[t]? = some o ∧ ∃ e ∈ o.after, Region.binds .any e = true ∧ e.on = t - 1 := fun t ht hl => by
    have h1 := List.all_eq_true.1 hc t (List.mem_range.2 (by simpa using hl))
    simp only [Bool.or_eq_true, decide_eq_true_eq] at h1
    obtain ⟨o, ho, e, he, hbe, hon⟩ := Region.waitsFor_spec (h1.resolve_left (by omega))
    exact ⟨o, by simpa using ho, e, he, hbe, hon⟩
  let I : Array Bool → Act → World → Prop := fun L a' w => Inv3 l n T R N a W L a' w ∨ ((∀ i, i < n → Has L i) ∧ ∃ j, n + j ≤ l.length ∧ (∀ t, n ≤ t → t < l.length → (Has L t ↔ t < n + j)) ∧ wpList P l.toArray Q (l.drop (n + j)) a' w)
  have hseq : ∀ (i : Nat) (o : Oper) (L : Array Bool) (a' : Act) (w : World), l[i]? = some o → L.size = l.length → (∀ k, k < n → Has L k) → ∀ j, i = n + j → (∀ t, n ≤ t → t < l.length → (Has L t ↔ t < n + j)) → wpList P l.toArray Q (l.drop (n + j)) a' w → o.wp P a' w (I (L.setIfInBounds i true)) Q ∨ (o.asks P a' w ∧ LetsOut Q) := by
    intro i o L a' w ho hL hall j hij htl hw
    have hil : i < l.length := (List.getElem?_eq_some_iff.1 ho).1
    have hg : o.guard.isNone = true := List.all_eq_true.1 hp o (List.mem_of_getElem? ho)
    have hdrop : l.drop (n + j) = o :: l.drop (n + j + 1) := by
      rw [← hij, List.drop_eq_getElem_cons hil]
      congr 1
      exact (List.getElem?_eq_some_iff.1 ho).2
    rw [hdrop] at hw
    unfold wpList at hw
    rw [if_pos (wanted_plain hg)] at hw
    refine hw.imp (Oper.wp_mono fun a'' w'' h => .inr ⟨fun k hk => (has_set (by omega)).2 (.inr (hall k hk)), j + 1, by omega, fun t ht htl' => ?_, h⟩) (fun h => h)
    rw [has_set (by omega), htl t ht htl']
    omega
  refine region_inv I hm (by rw [Bool.and_eq_true]; exact ⟨hb, hp⟩) (.inl ⟨⟨z, hR0, fun _ _ _ h => h, fun i d h => ?_⟩, fun j o _ h => ?_, fun t _ _ h => ?_⟩) ?_ ?_
  · unfold Has at h; rw [getD_replicate_false] at h; cases h
  · unfold Has at h; rw [getD_replicate_false] at h; cases h
  · unfold Has at h; rw [getD_replicate_false] at h; cases h
  · intro i o L a' w ho hL hun hdep hI
    have hil : i < l.length := (List.getElem?_eq_some_iff.1 ho).1
    have hnot := not_has hun
    rcases hI with hI | ⟨hall, j, hj, htl, hw⟩
    · by_cases hin : i < n
      · have hst := allS_spec (l.take n) 0 H i o (by rw [htake i hin]; exact ho)
        rw [Nat.zero_add] at hst
        obtain ⟨d, h1, h2, h3⟩ := hst
        have hg : o.guard = none := by
          have := List.all_eq_true.1 hp o (List.mem_of_getElem? ho)
          simpa using this
        have hdi : dstOf (l.take n) i = some d := by unfold dstOf; rw [htake i hin, ho]; exact h1
        refine .inl <| Oper.wp_mono (fun a'' w'' h => ?_) (wp_just (h3 a' w hI.inv.fr hI.inv.rel (fun t u ht => hI.inv.keep t u (fun i => notDst_spec ht i)) (fun j dj hj hdj => ?_)) hg)
        · obtain ⟨v, rfl, hr, ht⟩ := h
          rw [h1]
          refine .inl ⟨⟨hI.inv.fr.put, hRt _ _ _ hI.inv.rel hr, fun t u htt hu => (hI.inv.keep t u htt hu).ne' (fun e => htt i (by rw [hdi, e])), fun j dj hj hdj => ?_⟩, fun j oj hoj hj e he hbe => ?_, fun t ht htl h => ?_⟩
          · rw [has_set (by omega)] at hj
            by_cases hji : j = i
            · subst hji
              rw [hdi] at hdj
              injection hdj with hdj
              subst hdj
              exact ⟨v, At.hit hI.inv.fr h2, ht⟩
            · obtain ⟨u, hu, htu⟩ := hI.inv.told j dj (hj.resolve_left hji) hdj
              exact ⟨u, hu.ne' (fun e => hji (dist_spec hd j i dj hdj (by rw [hdi, e]))), hT _ _ _ _ htu hr⟩
          · rw [has_set (by omega)] at hj ⊢
            rcases hj with rfl | hj
            · obtain rfl : oj = o := Option.some.inj (hoj.symm.trans ho)
              exact .inr (hdep e he hbe)
            · exact .inr (hI.shut j oj hoj hj e he hbe)
          · rw [has_set (by omega)] at h
            rcases h with h | h
            · omega
            · exact hI.tail t ht htl h
        · obtain ⟨e, he, hbe, hon⟩ := dep_spec hj
          have := hdep e he hbe
          rw [hon] at this
          exact hI.inv.told j dj this (by rw [dstOf_eq]; exact hdj)
      · have hie : i = n := by
          rcases Nat.lt_or_ge n i with h | h
          · obtain ⟨o', ho', e, he, hbe, hon⟩ := hchain i h hil
            obtain rfl : o' = o := Option.some.inj (ho'.symm.trans ho)
            have := hdep e he hbe
            rw [hon] at this
            exact absurd this (hI.tail (i - 1) (by omega) (by omega))
          · omega
        have hall : ∀ k, k < n → Has L k := by
          intro k hk
          by_cases hk' : L.getD k true = false
          · exfalso
            have hinv : HeadInv .any l.toArray n L := ⟨by simpa using hL, fun j oj hoj hj e he hbe => hI.shut j oj (by simpa using hoj) hj e he hbe, fun t ht htl => by
              have htl' : t < l.length := by simpa using htl
              have := hI.tail t ht htl'
              unfold Has at this
              exact getD_in (by omega) (by simpa using this)⟩
            refine tail_waits hs hc (by simpa using hn) hinv _ k rfl hk hk' i (by omega) (mem_ready.2 ⟨hun, o, by simpa using ho, fun e he hbe => hdep e he hbe⟩)
          · unfold Has
            have hk2 : k < L.size := by omega
            simp only [Array.getD_eq_getD_getElem?, Array.getElem?_eq_getElem hk2, Option.getD_some, Bool.not_eq_false] at hk' ⊢
            exact hk'
        have hw := done a' w hI.inv.fr hI.inv.rel (fun t v ht => hI.inv.keep t v (fun i => notDst_spec ht i)) (fun k d hdd => by
          have hkn : k < n := by
            rcases Nat.lt_or_ge k n with h | h
            · exact h
            · rw [← dstOf_eq] at hdd; simp [dstOf, List.getElem?_eq_none (show (l.take n).length ≤ k by omega)] at hdd
          exact hI.inv.told k d (hall k hkn) (by rw [dstOf_eq]; exact hdd))
        exact hseq i o L a' w ho hL hall 0 hie (fun t ht htl => ⟨fun h => absurd h (hI.tail t ht htl), fun h => by omega⟩) hw
    · have hin : ¬ i < n := fun h => hnot (hall i h)
      have hie : i = n + j := by
        have h1 : ¬ i < n + j := fun h => hnot ((htl i (by omega) hil).2 h)
        rcases Nat.lt_or_ge (n + j) i with h | h
        · obtain ⟨o', ho', e, he, hbe, hon⟩ := hchain i (by omega) hil
          obtain rfl : o' = o := Option.some.inj (ho'.symm.trans ho)
          have := hdep e he hbe
          rw [hon] at this
          have := (htl (i - 1) (by omega) (by omega)).1 this
          omega
        · omega
      exact hseq i o L a' w ho hL hall j hie htl hw
  · intro L a' w hL hAll hI
    rcases hI with hI | ⟨_, j, hj, htl, hw⟩
    · exact absurd (hAll n hn) (hI.tail n (Nat.le_refl _) hn)
    · have : n + j = l.length := by
        have := (htl (l.length - 1) (by omega) (by omega)).1 (hAll _ (by omega))
        omega
      rw [this, List.drop_length] at hw
      exact hw
end
section
variable {VL : List Value} {b i : Nat} {ys : List Int} {E : TypeId} {W w w' : World} {v V : Value} {a : Act} {d : Nat}
end
structure RowOnly (B : Nat) (v : Value) (w w' : World) : Prop where
  os : w'.os = w.os
  tape : w'.tape = w.tape
  output : w'.output = w.output
  size : w.heap.size ≤ w'.heap.size
  block : ∀ k, k < w.heap.size → v.ownBlock ≠ some k → w'.heap[k]? = w.heap[k]?
theorem RowOnly.refl (B : Nat) (v : Value) (w : World) : RowOnly B v w w := ⟨rfl, rfl, rfl, Nat.le_refl _, fun _ _ _ => rfl⟩
theorem RowOnly.trans {B : Nat} {v : Value} (a b c : World) (h : RowOnly B v a b) (k : RowOnly B v b c) : RowOnly B v a c :=
  ⟨k.os.trans h.os, k.tape.trans h.tape, k.output.trans h.output, Nat.le_trans h.size k.size, fun i hi hn => (k.block i (Nat.lt_of_lt_of_le hi h.size) hn).trans (h.block i hi hn)⟩
theorem RowOnly.blk {B : Nat} {v : Value} {w w' : World} (h : RowOnly B v w w') {g : Nat} {ob : Obj} (hg : w.heap[g]? = some ob) (hne : v.ownBlock ≠ some g) : w'.heap[g]? = some ob := (h.block g (heap_lt hg) hne).trans hg
end Go.Proofs.YtnhchnlgleokoaaDoor.Q
end
/-! Q9 -/
section
namespace Go.Proofs.YtnhchnlgleokoaaDoor.Q
open Go.RowKit
open Go.Proofs.YtnhchnlgleokoaaDoorW.PrintWords (bytesOf bytesOf_length)
section
variable {P : Program} {Q : Exit → Act → World → Prop} {a : Act} {w : World} {o : Oper} {ops : Array Oper} {rest : List Oper} {K : Act → Prop} {C : World → Prop}
/-- a slice value that reads as_ the numbers l -/
def RdB (w : World) (v : Value) (l : List Int) : Prop := ∃ A cap, v = .slice A l.length cap ∧ l.length ≤ cap ∧ (0 < l.length → ∃ g i, A = some ⟨g, i, none⟩ ∧ ∀ j, j < l.length → w.cell? ⟨g, i + j, none⟩ = some (.int .u8 (l.getD j 0)))
theorem OwnB.rd {B : Nat} {E : TypeId} {v : Value} {l : List Int} (h : OwnB w B E v l) : RdB w v l := by
  have h0 := h
  rcases h with ⟨rfl, rfl⟩ | ⟨g, cap, cur, fz, rfl, h1, h2, h3, h4, _⟩
  · exact ⟨none, 0, rfl, Nat.le_refl _, fun h => absurd h (by simp)⟩
  · exact ⟨_, cap, rfl, h4, fun _ => ⟨g, 0, rfl, fun j hj => by rw [Nat.zero_add]; exact h0.cells rfl j hj⟩⟩
/-- what stays read: the row's block stands -/
theorem RdB.keep {w' : World} {v : Value} {l : List Int} (h : RdB w v l) (hk : ∀ k, v.ownBlock = some k → w'.heap[k]? = w.heap[k]?) : RdB w' v l := by
  obtain ⟨A, cap, rfl, h1, h2⟩ := h
  refine ⟨A, cap, rfl, h1, fun hp => ?_⟩
  obtain ⟨g, i, rfl, h3⟩ := h2 hp
  exact ⟨g, i, rfl, fun j hj => by rw [World.cell?_of_block (hk g rfl)]; exact h3 j hj⟩
def sliceFrom (v : Value) (i : Nat) : Value := match v with
  | .slice A n c => .slice (if c = i then A else A.map (·.add i)) (n - i) (c - i)
  | v => v
def sliceTo (v : Value) (i : Nat) : Value := match v with
  | .slice A _ c => .slice A i c
  | v => v
theorem RdB.from {v : Value} {l : List Int} (h : RdB w v l) (i : Nat) (hi : i ≤ l.length) : RdB w (sliceFrom v i) (l.drop i) := by
  obtain ⟨A, cap, rfl, h1, h2⟩ := h
  refine ⟨if cap = i then A else A.map (·.add i), cap - i, by simp [sliceFrom], by rw [List.length_drop]; omega, fun hp => ?_⟩
  rw [List.length_drop] at hp
  obtain ⟨g, j, rfl, h3⟩ := h2 (by omega)
  refine ⟨g, j + i, by rw [if_neg (by omega)]; simp [Addr.add_mid], fun k hk => ?_⟩
  rw [List.length_drop] at hk
  rw [Nat.add_assoc, h3 (i + k) (by omega)]
  simp [List.getD_eq_getElem?_getD]
theorem RdB.to {v : Value} {l : List Int} (h : RdB w v l) (i : Nat) (hi : i ≤ l.length) : RdB w (sliceTo v i) (l.take i) := by
  obtain ⟨A, cap, rfl, h1, h2⟩ := h
  have hl : (l.take i).length = i := by rw [List.length_take]; omega
  refine ⟨A, cap, by rw [hl]; rfl, by omega, fun hp => ?_⟩
  obtain ⟨g, j, rfl, h3⟩ := h2 (by omega)
  refine ⟨g, j, rfl, fun k hk => ?_⟩
  rw [h3 k (by omega)]
  rw [hl] at hk
  simp [List.getD_eq_getElem?_getD, hk]
end
end Go.Proofs.YtnhchnlgleokoaaDoor.Q
end
/-! Q10 -/
section
namespace Go.Proofs.YtnhchnlgleokoaaDoor.Q
open Go.RowKit
open Go.Proofs.YtnhchnlgleokoaaDoorW.PrintWords (bytesOf bytesOf_length)
section
variable {P : Program} {Q : Exit → Act → World → Prop} {a : Act} {w : World} {o : Oper} {ops : Array Oper} {rest : List Oper} {K : Act → Prop} {C : World → Prop}
theorem q_build {T : TypeId} {parts : Array (Nat × Operand)} {ps : Array (Nat × Value)} {cs : Array Value} (ho : o.op = .build T parts) (hp : (parts.map fun (i, x) => (i, a.eval x)) = ps) (hb : P.built T ps.toList = some cs) (hn : K (a.put o.dst (.agg cs))) : o.quiet P a C K :=
  q_val _ (fun w _ => by
    have h := run_build (P := P) w T _ cs (by rw [← hp] at hb; exact hb)
    unfold execOp
    simp only [ho, Sem.run_bind, h, Result.andThen_ok]
    rfl) hn
/-- a cell that holds a slice -/
theorem q_cellS {T E : TypeId} {x : Operand} {p : Addr} (v : Value) (ho : o.op = .load T x) (hT : P.underlying T = some (.slice E)) (hx : a.eval x = .pointer (some p)) (hc : ∀ w, C w → w.cell? p = some v) (hn : K (a.put o.dst v)) : o.quiet P a C K :=
  q_val _ (fun w hw => by
    unfold execOp
    have hl : (loadVar T p).run P w = .ok v w := by simp [loadVar, isAgg, Sem.run_bind, run_underlying hT w, hc w hw, load, Sem.run]
    simp only [ho, hx, Instr.loadAt, Instr.sureAddr, Sem.run_bind, Sem.run_pure, Result.andThen_ok, hl]) hn
theorem OwnB.base {B B' : Nat} {E : TypeId} {v : Value} {l : List Int} (h : OwnB w B' E v l) (hB : B ≤ B') : OwnB w B E v l := by
  rcases h with h | ⟨g, cap, cur, fz, e, h1, h2⟩
  · exact .inl h
  · exact .inr ⟨g, cap, cur, fz, e, Nat.le_trans hB h1, h2⟩
theorem OwnB.one {B : Nat} {E : TypeId} {v : Value} {l : List Int} (h : OwnB w B E v l) : v.oneCell' = true := by
  obtain ⟨A, cap, rfl, _⟩ := h.form
  rfl
theorem RdB.one {v : Value} {l : List Int} (h : RdB w v l) : v.oneCell' = true := by
  obtain ⟨A, cap, rfl, _⟩ := h
  rfl
/-- what reads stays so where memory only grows -/
theorem RdB.low {v : Value} {l : List Int} {w' : World} (h : RdB w v l) (k : Low w w') : RdB w' v l := by
  obtain ⟨A, cap, rfl, h1, h2⟩ := h
  refine ⟨A, cap, rfl, h1, fun hp => ?_⟩
  obtain ⟨g, i, rfl, h3⟩ := h2 hp
  refine ⟨g, i, rfl, fun j hj => ?_⟩
  have h4 := h3 0 hp
  have hlt : g < w.heap.size := by
    rcases Nat.lt_or_ge g w.heap.size with h | h
    · exact h
    · unfold World.cell? at h4; simp [Array.getElem?_eq_none h] at h4
  rw [World.cell?_of_block (k.block g hlt)]
  exact h3 j hj
theorem RdB.upd {v : Value} {l : List Int} {w' : World} {g : Nat} (h : RdB w v l) (u : Upd g w w') (hg : v.ownBlock ≠ some g) : RdB w' v l := h.keep fun k hk => u.block k fun e => hg (by rw [hk, e])
theorem OwnB.cast {B : Nat} {E : TypeId} {v : Value} {l l' : List Int} (h : OwnB w B E v l) (e : l = l') : OwnB w B E v l' := e ▸ h
/-- a cell that holds a string -/
theorem q_cellT {T : TypeId} {x : Operand} {p : Addr} (v : Value) (ho : o.op = .load T x) (hT : P.underlying T = some .string) (hx : a.eval x = .pointer (some p)) (hc : ∀ w, C w → w.cell? p = some v) (hn : K (a.put o.dst v)) : o.quiet P a C K :=
  q_val _ (fun w hw => by
    unfold execOp
    have hl : (loadVar T p).run P w = .ok v w := by simp [loadVar, isAgg, Sem.run_bind, run_underlying hT w, hc w hw, load, Sem.run]
    simp only [ho, hx, Instr.loadAt, Instr.sureAddr, Sem.run_bind, Sem.run_pure, Result.andThen_ok, hl]) hn
/-- the length of a slice literal -/
theorem q_lenL {c : Call} {T e : TypeId} {x : Operand} {A : Option Addr} {n cap : Nat} (ho : o.op = .call c) (hc : c = { callee := .builtin .len, args := #[x], argTypes := #[T] }) (hT : P.underlying T = some (.slice e)) (hx : a.eval x = .slice A n cap) (hn : K (a.put o.dst (.int .i64 (n : Int)))) : o.quiet P a C K :=
  q_val _ (fun w _ => by
    subst hc
    unfold execOp
    simp [ho, hx, resolve, invoke, builtin, Builtin.len_, Sem.run_bind, run_underlying hT w, goInt]) hn
def TL : List (Value → World → Prop) → Nat → Value → World → Prop
  | p :: _, 0, v, w => p v w
  | _ :: r, n + 1, v, w => TL r n v w
  | [], _, _, _ => True
def Is (u : Value) : Value → World → Prop := fun v _ => v = u
def StL (p : Value → World → Prop) : Prop := ∀ v w w', p v w → Low w w' → p v w'
theorem TL_nil : ∀ i v w w', TL [] i v w → Low w w' → TL [] i v w' := fun i _ _ _ _ _ => by cases i <;> trivial
theorem TL_cons {p : Value → World → Prop} {r : List (Value → World → Prop)} (hp : StL p) (hr : ∀ i v w w', TL r i v w → Low w w' → TL r i v w') : ∀ i v w w', TL (p :: r) i v w → Low w w' → TL (p :: r) i v w'
  | 0, v, w, w', h, k => hp v w w' h k
  | i + 1, v, w, w', h, k => hr i v w w' h k
theorem StL_is (u : Value) : StL (Is u) := fun _ _ _ h _ => h
theorem at_is {d : Nat} {u : Value} (h : ∃ v, At a d v ∧ Is u v w) : At a d u := by
  obtain ⟨_, h, rfl⟩ := h
  exact h
end
end Go.Proofs.YtnhchnlgleokoaaDoor.Q
end
/-! Q11 -/
section
namespace Go.Proofs.YtnhchnlgleokoaaDoor.Q
open Go.RowKit
section
variable {P : Program} {Q : Exit → Act → World → Prop} {a : Act} {w : World} {o : Oper} {ops : Array Oper} {rest : List Oper} {K : Act → Prop} {C : World → Prop}
structure RdW (w : World) (g i : Nat) (m : List Int) : Prop where
  lt : g < w.heap.size
  cell : ∀ j, j < m.length → w.cell? ⟨g, i + j, none⟩ = some (.int .u32 (m.getD j 0))
theorem RdW.low {w' : World} {g i : Nat} {m : List Int} (h : RdW w g i m) (k : Low w w') : RdW w' g i m :=
  ⟨Nat.lt_of_lt_of_le h.lt k.ge, fun j hj => (World.cell?_of_block (k.block g h.lt)).trans (h.cell j hj)⟩
theorem RdW.upd {w' : World} {g g' i : Nat} {m : List Int} (h : RdW w g i m) (u : Upd g' w w') (hne : g ≠ g') : RdW w' g i m :=
  ⟨by rw [u.size]; exact h.lt, fun j hj => (World.cell?_of_block (u.block g hne)).trans (h.cell j hj)⟩
theorem RdW.of {g : Nat} {m : List Int} {T : TypeId} (k : w.heap[g]? = some (.cells (nums .u32 m) T)) : RdW w g 0 m :=
  ⟨heap_lt k, fun j hj => by rw [Nat.zero_add]; exact nums_cell k j hj⟩
theorem fold_set (o : Nat) : ∀ (vs : List Value) (k : Nat) (cs : Array Value), o + k + vs.length ≤ cs.size →
    (((vs.zipIdx k).foldl (fun (cs : Array Value) (x : Value × Nat) => cs.setIfInBounds (o + x.2) x.1) cs)).toList = cs.toList.take (o + k) ++ vs ++ cs.toList.drop (o + k + vs.length)
  | [], k, cs, _ => by simp
  | v :: vs, k, cs, hl => by
    simp only [List.length_cons] at hl
    rw [List.zipIdx_cons, List.foldl_cons, fold_set o vs (k + 1) (cs.setIfInBounds (o + k) v) (by simp; omega)]
    have ho : o + k < cs.toList.length := by simp; omega
    rw [show o + (k + 1) = (o + k) + 1 from by omega, Array.toList_setIfInBounds, List.take_succ_eq_append_getElem (by simpa using ho), List.take_set_of_le (Nat.le_refl _)]
    simp only [List.getElem_set_self, List.length_cons, List.append_assoc, List.cons_append, List.nil_append]
    rw [List.drop_set_of_lt (by omega), show o + k + 1 + vs.length = o + k + (vs.length + 1) from by omega]
structure GrW (B : Nat) (E : TypeId) (v : Value) (w w' : World) : Prop where
  os : w'.os = w.os
  tape : w'.tape = w.tape
  output : w'.output = w.output
  size : w.heap.size ≤ w'.heap.size
  block : ∀ k, k < w.heap.size → v.ownBlock ≠ some k → w'.heap[k]? = w.heap[k]?
  old : ∀ k, v.ownBlock = some k → B ≤ k ∧ ∃ cur fz, w.heap[k]? = some (.cells cur E fz)
theorem GrW.blk {B : Nat} {E T : TypeId} {v : Value} {w w' : World} (h : GrW B E v w w') {g : Nat} {cs : Array Value} (hg : w.heap[g]? = some (.cells cs T)) (hT : Nat.beq T E = false) : w'.heap[g]? = some (.cells cs T) := by
  rw [h.block g (heap_lt hg) fun e => ?_]
  · exact hg
  · obtain ⟨_, cur, fz, h2⟩ := h.old g e
    rw [hg] at h2
    simp only [Option.some.injEq, Obj.cells.injEq] at h2
    obtain ⟨_, rfl, _⟩ := h2
    simp at hT
theorem Low.grw {w0 w w' : World} {E : TypeId} {v : Value} (h : Low w0 w) (g : GrW w0.heap.size E v w w') : Low w0 w' :=
  Below.trans h ⟨g.os, g.tape, g.output, g.size, fun k hk => g.block k (Nat.lt_of_lt_of_le hk h.size) fun e => by have := (g.old k e).1; omega⟩
theorem q_extract {x : Operand} {i : Nat} {vs : Array Value} {v : Value} (ho : o.op = .extract x i) (hx : a.eval x = .tuple vs) (hi : vs[i]? = some v) (hn : K (a.put o.dst v)) : o.quiet P a C K :=
  q_val _ (fun w _ => by
    unfold execOp
    simp [ho, hx, Instr.extract, hi]) hn
theorem q_not {x : Operand} {T : TypeId} {b : Bool} (ho : o.op = .unOp .not T x) (hx : a.eval x = .bool b) (hn : K (a.put o.dst (.bool (!b)))) : o.quiet P a C K :=
  q_val _ (fun w _ => by
    unfold execOp
    simp only [ho, hx, Sem.run_bind]
    rfl) hn
theorem r_two {fn : Func} {t s : Nat} {v u : Value} {R : Ending → World → Prop} (hr : fn.results = #[.tmp t, .tmp s]) (hd : a.defers = []) (ht : At a t v) (hs : At a s u) (hR : R (.returned (.tuple #[v, u])) w) : bodyPost P fn R .ret a w :=
  ⟨hd, .tuple #[v, u], by unfold At at ht hs; simp [results, hr, ht, hs], hR⟩
end
end Go.Proofs.YtnhchnlgleokoaaDoor.Q
end
