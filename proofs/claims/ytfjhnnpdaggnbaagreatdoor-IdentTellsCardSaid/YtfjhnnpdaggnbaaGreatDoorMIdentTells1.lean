/- Merged out of this session's texts by a program (wip/gen/merge.py): declarations that this claim doesn't name are left out. -/
import Derived.Test.YtfjhnnpdaggnbaaGreatDoorMIdentTells0
import Derived.OrdersHeld
import Derived.Laws.BitsLemmas
import Derived.Test.YtfjhnnpdaggnbaaGreatDoorProg
import Derived.Deep.RegionWith
set_option linter.unusedVariables false
set_option linter.unusedSimpArgs false
/-! WLast -/
section
namespace Go.Proofs.YtfjhnnpdaggnbaaGreatDoorW.PrintLast
section
variable {P : Program} {ops : Array Oper} {Q : Exit → Act → World → Prop} {md : Region.Mode} {S : World → Prop} {ds : List Nat}
/-- Operation d waits for operation i, by a chain of at most 'fuel' edges. -/
def Region.reachB (md : Region.Mode) (ops : Array Oper) (i : Nat) : Nat → Nat → Bool
  | 0, _ => false
  | fuel + 1, d => match ops[d]? with
    | some o => o.after.any fun e => Region.binds md e && (e.on == i || Region.reachB md ops i fuel e.on)
    | none => false
/-- Each of ds that has not come up yet waits for number i. -/
def Region.lastB (md : Region.Mode) (ops : Array Oper) (listed : Array Bool) (ds : List Nat) (i : Nat) : Bool :=
  ds.all fun d => listed.getD d true || Region.reachB md ops i ops.size d
def ListedClosed (md : Region.Mode) (ops : Array Oper) (listed : Array Bool) : Prop :=
  ∀ j oj, ops[j]? = some oj → listed.getD j false = true → ∀ e ∈ oj.after, Region.binds md e = true → listed.getD e.on false = true
theorem ListedClosed.set {listed : Array Bool} {i : Nat} (h : ListedClosed md ops listed) (hi : i ∈ Region.ready md ops listed) : ListedClosed md ops (listed.setIfInBounds i true) := by
  obtain ⟨_, oi, hoi, hall⟩ := mem_ready.1 hi
  intro j oj hj hl e he hb
  by_cases hij : i = j
  · subst hij
    have : oj = oi := Option.some.inj (hj.symm.trans hoi)
    subst this
    exact getD_set_true (hall e he hb)
  · rw [getD_set_ne false hij] at hl
    exact getD_set_true (h j oj hj hl e he hb)
/-- Whatever order is picked from here on, AND 'S' HOLDS BEHIND EVERY OPERATION THAT IS CARRIED OUT, those of ds apart. -/
def wpAnyLast (P : Program) (md : Region.Mode) (ops : Array Oper) (Q : Exit → Act → World → Prop) (S : World → Prop) (ds : List Nat) : Nat → Array Bool → Act → World → Prop
  | 0, listed, a, w => Region.ready md ops listed = [] ∧ Q .normal a w
  | fuel + 1, listed, a, w =>
    (Region.ready md ops listed = [] → Q .normal a w) ∧
    ∀ i ∈ Region.ready md ops listed, wpOp P ops Q i (fun a' w' => (i ∉ ds → S w → S w') ∧ wpAnyLast P md ops Q S ds fuel (listed.setIfInBounds i true) a' w') a w
theorem wpAny_of_last : ∀ (fuel : Nat) (listed : Array Bool) (a : Act) (w : World), wpAnyLast P md ops Q S ds fuel listed a w → wpAny P md ops Q fuel listed a w
  | 0, _, _, _, h => h
  | fuel + 1, _, _, _, h => ⟨h.1, fun i hi => wpOp_mono (fun a' w' h' => wpAny_of_last fuel _ a' w' h'.2) (h.2 i hi)⟩
/-- Take number 'i' first, which yields whatever the world: no S is asked for, nor that anything waits for it. -/
theorem wpAnyLast_any {i : Nat} {oi : Oper} {v : Value} (hi : ops[i]? = some oi) (hsel : ∀ (j : Nat) (o : Oper) cs b, ops[j]? = some o → o.op ≠ .select cs b)
    (hQ : ∀ c a w, Q (.panic c) (a.put oi.dst v) w → Q (.panic c) a w) :
    ∀ (fuel : Nat) (listed : Array Bool) (a : Act) (w : World),
      (∀ j oj, ops[j]? = some oj → j ≠ i → listed.getD j true = false → (∀ e ∈ oj.after, Region.binds md e = true → e.on ≠ i) → oi.apart ops oj = true) →
      i ∈ Region.ready md ops listed → Yields P ops oi v a →
      wpAnyLast P md ops Q S ds fuel (listed.setIfInBounds i true) (a.put oi.dst v) w → wpAnyLast P md ops Q S ds (fuel + 1) listed a w := by
  intro fuel
  induction fuel with
  | zero =>
    intro listed a w _ hr hy H
    refine ⟨fun h => (by rw [h] at hr; cases hr), fun j hj => ?_⟩
    by_cases hji : j = i
    · subst hji; exact (hy.yieldsIf (S := fun _ => True)).wpOp hi trivial ⟨fun _ h => h, H⟩
    · have := ready_mono hj hji
      rw [H.1] at this
      cases this
  | succ fuel ih =>
    intro listed a w hfree hr hy H
    refine ⟨fun h => (by rw [h] at hr; cases hr), fun j hj => ?_⟩
    by_cases hji : j = i
    · subst hji; exact (hy.yieldsIf (S := fun _ => True)).wpOp hi trivial ⟨fun _ h => h, H⟩
    · have h1 := H.2 j (ready_mono hj hji)
      obtain ⟨hjun, oj, hoj, hall⟩ := mem_ready.1 hj
      have hiun := (mem_ready.1 hr).1
      have hnot : ∀ e ∈ oj.after, Region.binds md e = true → e.on ≠ i := fun e he hb heq => by
        have h1 := hall e he hb
        rw [heq] at h1
        rcases Nat.lt_or_ge i listed.size with h' | h'
        · simp [h'] at hiun h1; rw [hiun] at h1; cases h1
        · simp [Array.getElem?_eq_none h'] at h1
      have h2 := wpOp_put hoj (hfree j oj hoj hji hjun hnot) (fun cs b => hsel i oi cs b hi) (fun cs b => hsel j oj cs b hoj) hQ hy h1
      have hfree' : ∀ k ok, ops[k]? = some ok → k ≠ i → (listed.setIfInBounds j true).getD k true = false →
          (∀ e ∈ ok.after, Region.binds md e = true → e.on ≠ i) → oi.apart ops ok = true := fun k ok hk hki hun hno => by
        refine hfree k ok hk hki ?_ hno
        by_cases hjk : j = k
        · subst hjk; exact hjun
        · rw [getD_set_ne true hjk] at hun; exact hun
      refine wpOp_mono (fun a' w' h3 => ⟨h3.2.1, ih (listed.setIfInBounds j true) a' w' hfree' (ready_mono hr (Ne.symm hji)) h3.1 ?_⟩) h2
      rw [Array.setIfInBounds_comm _ _ hji]
      exact h3.2.2
theorem wpAnyLast_all {rs : List Nat} {fuel : Nat} {listed : Array Bool} {a : Act} {w : World} (hr : Region.ready md ops listed = rs) (hne : rs ≠ [])
    (h : ∀ i ∈ rs, wpOp P ops Q i (fun a' w' => (i ∉ ds → S w → S w') ∧ wpAnyLast P md ops Q S ds fuel (listed.setIfInBounds i true) a' w') a w) : wpAnyLast P md ops Q S ds (fuel + 1) listed a w :=
  ⟨fun h0 => absurd (hr ▸ h0) hne, hr ▸ h⟩
theorem wpAnyLast_done {listed : Array Bool} {a : Act} {w : World} (hr : Region.ready md ops listed = []) (h : Q .normal a w) :
    ∀ fuel, wpAnyLast P md ops Q S ds fuel listed a w
  | 0 => ⟨hr, h⟩
  | _ + 1 => ⟨fun _ => h, by rw [hr]; simp⟩
theorem wp_region_last {id : Nat} {a : Act} {w : World} (hm : P.follows .mixedOrders = true)
    (h : wpAnyLast P .any ops Q S ds ops.size (Array.replicate ops.size false) a { w with drawn := w.drawn + 1 }) : (Code.region id ops true).wp P Q a w :=
  wp_region_any hm (wpAny_of_last _ _ _ _ h)
end
section
variable {P : Program} {ops : Array Oper} {Q : Exit → Act → World → Prop} {md : Region.Mode} {S : World → Prop} {ds : List Nat}
def AllReadyL (P : Program) (md : Region.Mode) (ops : Array Oper) (Q : Exit → Act → World → Prop) (S : World → Prop) (ds : List Nat) (fuel : Nat) (listed : Array Bool) (a : Act) (w : World) (rs : List Nat) : Prop :=
  ∀ i ∈ rs, wpOp P ops Q i (fun a' w' => (i ∉ ds → S w → S w') ∧ wpAnyLast P md ops Q S ds fuel (listed.setIfInBounds i true) a' w') a w
theorem AllReadyL.nil {fuel : Nat} {listed : Array Bool} {a : Act} {w : World} : AllReadyL P md ops Q S ds fuel listed a w [] := fun _ h => by cases h
theorem AllReadyL.cons {fuel : Nat} {listed : Array Bool} {a : Act} {w : World} {i : Nat} {o : Oper} {rs : List Nat} (ho : ops[i]? = some o) (hd : i ∉ ds)
    (h : ∀ K' : Act → World → Prop, Shut (∀ a w, S w → (S w → wpAnyLast P md ops Q S ds fuel (listed.setIfInBounds i true) a w) → K' a w) → if Region.wanted o (yielded ops a.tmps) = true then Oper.wp P o a w K' Q else K' (a.put o.dst undef) w)
    (hs : AllReadyL P md ops Q S ds fuel listed a w rs) : AllReadyL P md ops Q S ds fuel listed a w (i :: rs) := fun j hj => by
  rcases List.mem_cons.1 hj with rfl | hj
  · exact wpOp_step ho (fun K' hK => h K' (fun a w hS hW => hK a w ⟨fun _ _ => hS, hW hS⟩))
  · exact hs j hj
/-- Behind an operation of ds nothing is shown. -/
theorem AllReadyL.cons_last {fuel : Nat} {listed : Array Bool} {a : Act} {w : World} {i : Nat} {o : Oper} {rs : List Nat} (ho : ops[i]? = some o) (hd : i ∈ ds)
    (h : ∀ K' : Act → World → Prop, Shut (∀ a w, wpAnyLast P md ops Q S ds fuel (listed.setIfInBounds i true) a w → K' a w) → if Region.wanted o (yielded ops a.tmps) = true then Oper.wp P o a w K' Q else K' (a.put o.dst undef) w)
    (hs : AllReadyL P md ops Q S ds fuel listed a w rs) : AllReadyL P md ops Q S ds fuel listed a w (i :: rs) := fun j hj => by
  rcases List.mem_cons.1 hj with rfl | hj
  · exact wpOp_step ho (fun K' hK => h K' (fun a w hW => hK a w ⟨fun hn => absurd hd hn, hW⟩))
  · exact hs j hj
theorem wpAnyLast_ready {rs : List Nat} {fuel : Nat} {listed : Array Bool} {a : Act} {w : World} (hr : Region.ready md ops listed = rs) (hne : rs ≠ [])
    (h : AllReadyL P md ops Q S ds fuel listed a w rs) : wpAnyLast P md ops Q S ds (fuel + 1) listed a w := wpAnyLast_all hr hne h
/-- THE SAME STEPS WITH WHAT HAS COME UP WRITTEN OUT (a literal array of Bools) and one check a step: quicker, and what is printed stays short. -/
theorem start_ {id n : Nat} {a : Act} {w : World} (l : Array Bool) (hm : P.follows .mixedOrders = true) (hn : ops.size = n) (hl : Array.replicate n false = l) (hS : S w.drew)
    (h : S w.drew → wpAnyLast P .any ops Q S ds n l a w.drew) : (Code.region id ops true).wp P Q a w := by
  subst hn
  subst hl
  exact wp_region_last hm (h hS)
def anyB (md : Region.Mode) (ops : Array Oper) (l l' : Array Bool) (i : Nat) : Bool :=
  Region.noSelect ops && Region.free md ops l i && (Region.ready md ops l).contains i && (l.setIfInBounds i true == l')
/-- An operation that yields in every world (a move, a number, an address): taken first wherever it may come up, behind a store too. -/
theorem pure_ {i : Nat} {N : Option Tmp} {oi : Oper} {v : Value} {fuel : Nat} {l : Array Bool} {a : Act} {w : World} (l' : Array Bool) (hi : ops[i]? = some oi) (hN : oi.dst = N) (hc : anyB md ops l l' i = true)
    (hQ : ∀ c a w, Q (.panic c) (a.put oi.dst v) w → Q (.panic c) a w) (hy : Yields P ops oi v a) {a' : Act} (ha : a.put N v = a')
    (h : wpAnyLast P md ops Q S ds fuel l' a' w) : wpAnyLast P md ops Q S ds (fuel + 1) l a w := by
  subst ha
  subst hN
  simp only [anyB, Bool.and_eq_true, beq_iff_eq] at hc
  obtain ⟨⟨⟨h1, h2⟩, h3⟩, h6⟩ := hc
  subst h6
  exact wpAnyLast_any hi (Region.noSelect_spec h1) hQ fuel l a w (Region.free_spec hi h2) (by simpa using h3) hy h
def readyB (md : Region.Mode) (ops : Array Oper) (l l' : Array Bool) (i : Nat) : Bool := (Region.ready md ops l == [i]) && (l.setIfInBounds i true == l')
/-- One operation alone may come up now (a call, a build, an append ..): it is run, S is shown behind it. -/
theorem one_ {i : Nat} {N : Option Tmp} {oi : Oper} {fuel : Nat} {l : Array Bool} {a : Act} {w : World} (l' : Array Bool) (hi : ops[i]? = some oi) (hN : oi.dst = N) (hc : readyB md ops l l' i = true) (hd : i ∉ ds)
    (h : ∀ K : Act → World → Prop, Shut (∀ a' w', S w' → (S w' → wpAnyLast P md ops Q S ds fuel l' a' w') → K a' w') → if Region.wanted oi (yielded ops a.tmps) = true then Oper.wp P oi a w K Q else K (a.put N undef) w) :
    wpAnyLast P md ops Q S ds (fuel + 1) l a w := by
  subst hN
  simp only [readyB, Bool.and_eq_true, beq_iff_eq] at hc
  obtain ⟨h1, h2⟩ := hc
  subst h2
  exact wpAnyLast_ready h1 (by simp) (AllReadyL.cons hi hd (fun K hK => h K hK) AllReadyL.nil)
/-- The same for one of ds: nothing is shown behind it. -/
theorem last_ {i : Nat} {N : Option Tmp} {oi : Oper} {fuel : Nat} {l : Array Bool} {a : Act} {w : World} (l' : Array Bool) (hi : ops[i]? = some oi) (hN : oi.dst = N) (hc : readyB md ops l l' i = true) (hd : i ∈ ds)
    (h : ∀ K : Act → World → Prop, Shut (∀ a' w', wpAnyLast P md ops Q S ds fuel l' a' w' → K a' w') → if Region.wanted oi (yielded ops a.tmps) = true then Oper.wp P oi a w K Q else K (a.put N undef) w) :
    wpAnyLast P md ops Q S ds (fuel + 1) l a w := by
  subst hN
  simp only [readyB, Bool.and_eq_true, beq_iff_eq] at hc
  obtain ⟨h1, h2⟩ := hc
  subst h2
  exact wpAnyLast_ready h1 (by simp) (AllReadyL.cons_last hi hd (fun K hK => h K hK) AllReadyL.nil)
theorem done_ {l : Array Bool} {a : Act} {w : World} {n : Nat} (hr : (Region.ready md ops l == []) = true) (h : Q .normal a w) : wpAnyLast P md ops Q S ds n l a w := wpAnyLast_done (by simpa using hr) h n
/-- The act written out. -/
theorem norm_ {fuel : Nat} {l : Array Bool} {a a' : Act} {w : World} (ha : a = a') (h : wpAnyLast P md ops Q S ds fuel l a' w) : wpAnyLast P md ops Q S ds fuel l a w := by
  subst ha
  exact h
/-- A call of a Go function, by its contract. -/
theorem call_ {oi : Oper} {N : Option Tmp} {a : Act} {w : World} {K : Act → World → Prop} (f : FuncId) (args : Array Value) (hw : Region.wanted oi (yielded ops a.tmps) = true) (hN : oi.dst = N) (hrun : (execOp a.eval oi).run P w = .ok (.enter f args) w)
    (h : Calls P f args w fun e w' => ∃ v, e = .returned v ∧ K (a.put N v) w') : if Region.wanted oi (yielded ops a.tmps) = true then Oper.wp P oi a w K Q else K (a.put N undef) w := by
  rw [if_pos hw]
  subst hN
  unfold Oper.wp
  rw [hrun, Oper.upon_enter]
  refine h.mono fun e w'' hh => ?_
  obtain ⟨v, rfl, hk⟩ := hh
  exact hk
theorem enters_ {f : FuncId} {fn : Func} (hf : P.funcs[f]? = some fn) (hname : (fn.name == "runtime.NumGoroutine") = false) (hb : fn.body.isSome = true) (args : Array Value) (w : World) : (callFunc f args).run P w = .ok (.enter f args) w := by
  have h1 : fn.name ≠ "runtime.NumGoroutine" := by simpa using hname
  obtain ⟨c, hc⟩ := Option.isSome_iff_exists.1 hb
  simp [callFunc, hf, h1, hc]
/-- The same, the operation's run shown here: 'goes_ A.func3 (by kernel_rfl) rfl #[..] (by rfl) rfl rfl (by rfl) ?_'. -/
theorem goes_ {oi : Oper} {N : Option Tmp} {a : Act} {w : World} {K : Act → World → Prop} {f : FuncId} {fn : Func} {as_ : Array Operand} {ts : Array TypeId} (hf : P.funcs[f]? = some fn) (hname : (fn.name == "runtime.NumGoroutine") = false) (hb : fn.body.isSome = true) (args : Array Value)
    (hw : Region.wanted oi (yielded ops a.tmps) = true) (hN : oi.dst = N) (hop : oi.op = .call { callee := .value (.func f), args := as_, argTypes := ts }) (hargs : as_.map a.eval = args)
    (h : Calls P f args w fun e w' => ∃ v, e = .returned v ∧ K (a.put N v) w') : if Region.wanted oi (yielded ops a.tmps) = true then Oper.wp P oi a w K Q else K (a.put N undef) w := by
  refine call_ f args hw hN ?_ h
  have he := enters_ hf hname hb args w
  unfold execOp
  simp [hop, resolve, Deferred.ofValue, invoke, Act.eval, hargs, he]
/-- A call in a plain region, as_ an arm of go_wp2_with ('hd' first: it fails at once at another operation). -/
theorem goesL_ {rest : List Oper} {oi : Oper} {a : Act} {w : World} (N : Option Tmp) (hd : oi.dst = N) (hg : oi.guard = none) {f : FuncId} {fn : Func} {as_ : Array Operand} {ts : Array TypeId} (hf : P.funcs[f]? = some fn) (hname : (fn.name == "runtime.NumGoroutine") = false) (hb : fn.body.isSome = true) (args : Array Value)
    (hop : oi.op = .call { callee := .value (.func f), args := as_, argTypes := ts }) (hargs : as_.map a.eval = args)
    (h : Calls P f args w fun e w' => ∃ v, e = .returned v ∧ wpList P ops Q rest (a.put N v) w') : wpList P ops Q (oi :: rest) a w := by
  refine wpList_plain hg fun K hK => ?_
  have he := enters_ hf hname hb args w
  have hrun : (execOp a.eval oi).run P w = .ok (.enter f args) w := by
    unfold execOp
    simp [hop, resolve, Deferred.ofValue, invoke, Act.eval, hargs, he]
  unfold Oper.wp
  rw [hrun, Oper.upon_enter]
  refine h.mono fun e w'' hh => ?_
  obtain ⟨v, rfl, hk⟩ := hh
  subst hd
  exact hK _ _ hk
/-- A store. -/
theorem skip_ {oi : Oper} {a : Act} {w w1 : World} {K : Act → World → Prop} (hw : Region.wanted oi (yielded ops a.tmps) = true) (hN : oi.dst = none) (hrun : (execOp a.eval oi).run P w = .ok .skip w1)
    (h : K a w1) : if Region.wanted oi (yielded ops a.tmps) = true then Oper.wp P oi a w K Q else K (a.put none undef) w := by
  rw [if_pos hw]
  unfold Oper.wp
  rw [hrun]
  show K (a.put oi.dst undef) w1
  rw [hN]
  exact h
theorem i64_w (n : Int) : IntKind.i64.wrap n = Go.RowKit.wrap64 n := by unfold Go.RowKit.wrap64; exact IntKind.wrap_i64 n
theorem i32_w (n : Int) : IntKind.i32.wrap n = Go.RowKit.wrap32 n := by unfold Go.RowKit.wrap32; exact IntKind.wrap_i32 n
end
end Go.Proofs.YtfjhnnpdaggnbaaGreatDoorW.PrintLast
end
/-! WTab -/
section
namespace Go.Proofs.YtfjhnnpdaggnbaaGreatDoorW.PrintLast
open Go.Proofs.YtfjhnnpdaggnbaaGreatDoorW.PrintWords (Aside0)
def needsOf (md : Region.Mode) (o : Oper) : List Nat := (o.after.toList.filter (fun e => Region.binds md e)).map (fun e => e.on)
def clashOf (md : Region.Mode) (ops : Array Oper) (i : Nat) (oi : Oper) : List Nat := (List.range ops.size).filter fun j => !(j == i) && match ops[j]? with
  | some oj => !(oj.after.any (fun e => Region.binds md e && e.on == i) || oi.apart ops oj)
  | none => false
/-- No select in it; for each operation: what must have come up before it, and what may not come up behind it if it is taken first. -/
def rtab (md : Region.Mode) (ops : Array Oper) : Bool × List (List Nat × List Nat) := (Region.noSelect ops, (List.range ops.size).map fun i => match ops[i]? with
  | some o => (needsOf md o, clashOf md ops i o)
  | none => ([], []))
def readyAt (T : List (List Nat × List Nat)) (l : List Bool) (i : Nat) : Bool := !l.getD i true && match T[i]? with
  | some r => r.1.all (fun j => l.getD j false)
  | none => false
def readyT (T : List (List Nat × List Nat)) (l : List Bool) : List Nat := (List.range T.length).filter (readyAt T l)
def freeT (T : List (List Nat × List Nat)) (l : List Bool) (i : Nat) : Bool := match T[i]? with
  | some r => r.2.all (fun j => l.getD j true)
  | none => false
section
variable {md : Region.Mode} {ops : Array Oper} {T : Bool × List (List Nat × List Nat)} {l l' li lj lk : Array Bool} {ds : List Nat} {i j k : Nat}
theorem gd (l : Array Bool) (j : Nat) (b : Bool) : l.getD j b = l.toList.getD j b := by simp [Array.getD_eq_getD_getElem?, List.getD_eq_getElem?_getD]
theorem needs_all (o : Oper) (p : Nat → Bool) : o.after.all (fun e => !Region.binds md e || p e.on) = (needsOf md o).all p := by
  unfold needsOf
  rw [← Array.all_toList]
  induction o.after.toList with
  | nil => rfl
  | cons e r ih =>
    rw [List.all_cons, ih, List.filter_cons]
    cases h : Region.binds md e <;> simp
theorem rtab_length : (rtab md ops).2.length = ops.size := by simp [rtab]
theorem rtab_some {o : Oper} (h : ops[i]? = some o) : (rtab md ops).2[i]? = some (needsOf md o, clashOf md ops i o) := by
  have hi := (Array.getElem?_eq_some_iff.1 h).1
  unfold rtab
  rw [List.getElem?_map, List.getElem?_range hi, Option.map_some, h]
theorem rtab_none (h : ops[i]? = none) : (rtab md ops).2[i]? = none := by
  have hi : ops.size ≤ i := Array.getElem?_eq_none_iff.1 h
  exact List.getElem?_eq_none (by rw [rtab_length]; exact hi)
theorem readyAt_eq : readyAt (rtab md ops).2 l.toList i = (!l.getD i true && ((ops[i]?).map (·.after.all fun e => !Region.binds md e || l.getD e.on false)).getD false) := by
  unfold readyAt
  rw [gd]
  cases h : ops[i]? with
  | none => rw [rtab_none h]; rfl
  | some o =>
    rw [rtab_some h]
    simp only [Option.map_some, Option.getD_some]
    rw [← needs_all]
    simp only [gd]
theorem ready_eq : Region.ready md ops l = readyT (rtab md ops).2 l.toList := by
  unfold Region.ready readyT
  rw [rtab_length]
  refine List.filter_congr (fun i _ => ?_)
  rw [readyAt_eq]
theorem free_eq : Region.free md ops l i = freeT (rtab md ops).2 l.toList i := by
  unfold Region.free freeT
  cases h : ops[i]? with
  | none => rw [rtab_none h]
  | some oi =>
    rw [rtab_some h]
    simp only [clashOf]
    rw [List.all_filter]
    congr 1
    funext j
    rw [gd]
    cases hj : ops[j]? with
    | none => cases (j == i) <;> cases (l.toList.getD j true) <;> simp
    | some oj =>
      cases (j == i) <;> cases (l.toList.getD j true) <;> cases (oj.after.any (fun e => Region.binds md e && e.on == i) || oi.apart ops oj) <;> simp_all
theorem readyAt_mem (h : readyAt T.2 l.toList i = true) (hT : rtab md ops = T) : (Region.ready md ops l).contains i = true := by
  subst hT
  rw [ready_eq]
  unfold readyT
  rw [List.contains_iff_mem, List.mem_filter, List.mem_range]
  refine ⟨?_, h⟩
  unfold readyAt at h
  rw [Bool.and_eq_true] at h
  cases hq : (rtab md ops).2[i]? with
  | none => rw [hq] at h; simp at h
  | some r => exact (List.getElem?_eq_some_iff.1 hq).1
theorem set_of (h : (l.toList.set i true == l'.toList) = true) : (l.setIfInBounds i true == l') = true := by
  rw [beq_iff_eq] at h ⊢
  apply Array.ext'
  rw [Array.toList_setIfInBounds]
  exact h
def anyT (T : Bool × List (List Nat × List Nat)) (l l' : List Bool) (i : Nat) : Bool := T.1 && freeT T.2 l i && readyAt T.2 l i && (l.set i true == l')
/-- pure_'s condition out of the table. -/
theorem any_of (hT : rtab md ops = T) (h : anyT T l.toList l'.toList i = true) : anyB md ops l l' i = true := by
  simp only [anyT, Bool.and_eq_true] at h
  obtain ⟨⟨⟨h1, h2⟩, h3⟩, h4⟩ := h
  have h5 := readyAt_mem h3 hT
  have h6 := set_of h4
  subst hT
  simp only [anyB, Bool.and_eq_true]
  exact ⟨⟨⟨h1, by rw [free_eq]; exact h2⟩, h5⟩, h6⟩
/-- one_'s and last_'s. -/
theorem one_of (hT : rtab md ops = T) (h : (readyT T.2 l.toList == [i] && l.toList.set i true == l'.toList) = true) : readyB md ops l l' i = true := by
  simp only [Bool.and_eq_true] at h
  obtain ⟨h1, h2⟩ := h
  subst hT
  simp only [readyB, Bool.and_eq_true]
  exact ⟨by rw [ready_eq]; exact h1, set_of h2⟩
/-- done_'s. -/
theorem done_of (hT : rtab md ops = T) (h : (readyT T.2 l.toList == []) = true) : (Region.ready md ops l == []) = true := by
  subst hT
  rw [ready_eq]
  exact h
/-- What d waits for, as_ bits: told in the table (B), checked in one pass: each bit is a need of d, or a bit of an earlier need's. -/
def upM (B : List Nat) (d : Nat) : List Nat → Nat
  | [] => 0
  | n :: r => (2 ^ n ||| (if n < d then B.getD n 0 else 0)) ||| upM B d r
def waitsOk (T : List (List Nat × List Nat)) (B : List Nat) : Bool := (List.range T.length).all fun d => match T[d]? with
  | some r => (B.getD d 0 ||| upM B d r.1) == upM B d r.1
  | none => false
theorem with_tabW {P : Program} {Q : Exit → Act → World → Prop} {S : World → Prop} {n : Nat} {a : Act} {w : World} {B : List Nat} (hT : rtab md ops = T) (hB : waitsOk T.2 B = true) (h : Aside0 (rtab md ops = T) → Aside0 (waitsOk T.2 B = true) → wpAnyLast P md ops Q S ds n l a w) : wpAnyLast P md ops Q S ds n l a w := h ⟨hT⟩ ⟨hB⟩
end
/-- The operations of a region, by its number. -/
def opsIn : Code → Nat → Option (Array Oper)
  | .region id ops _, k => if id == k then some ops else none
  | .seq a b, k => match opsIn a k with
    | some o => some o
    | none => opsIn b k
  | .cond _ a b, k => match opsIn a k with
    | some o => some o
    | none => opsIn b k
  | .block _ c, k => opsIn c k
  | .loop c, k => opsIn c k
  | .scope c, k => opsIn c k
  | .rangeFunc _ _ a b, k => match opsIn a k with
    | some o => some o
    | none => opsIn b k
  | _, _ => none
def opsOf (f : Func) (k : Nat) : Array Oper := ((f.body.bind fun c => opsIn c k)).getD #[]
end Go.Proofs.YtfjhnnpdaggnbaaGreatDoorW.PrintLast
end
/-! WFour -/
section
namespace Go.Proofs.YtfjhnnpdaggnbaaGreatDoorW.PrintLast
section
variable {P : Program} {ops : Array Oper} {Q : Exit → Act → World → Prop} {md : Region.Mode} {S : World → Prop} {ds : List Nat} {T : Bool × List (List Nat × List Nat)}
end
end Go.Proofs.YtfjhnnpdaggnbaaGreatDoorW.PrintLast
end
/-! WQPut -/
section
namespace Go.Proofs.YtfjhnnpdaggnbaaGreatDoorW.PrintWords
open Go.RowKit
namespace Kd
section
variable {α : Type} {d : Kd α} {e base g o n cap : Nat} {ok okp : Nat → Prop} {w W : World} {v : Value} {xs : List α}
end
section
variable {α : Type} {enc : α → Value} {h1 : ∀ x, (enc x).oneCell' = true} {e base g o n cap : Nat} {ok : Nat → Prop} {W : World} {xs : List α}
end
end Kd
end Go.Proofs.YtfjhnnpdaggnbaaGreatDoorW.PrintWords
end
/-! WApart -/
section
namespace Go.Proofs.YtfjhnnpdaggnbaaGreatDoorW.PrintWords
open Go.RowKit
namespace Kd
/-- An element with its index: its blocks are those that f gives to it. -/
def tag {α : Type} (f : Nat → Nat) (d : Kd α) : Kd (α × Nat) where
  sz := d.sz
  E := d.E
  K := fun w x cs => d.K w x.1 cs
  M := fun w base ok x cs => d.M w base (fun k => ok k ∧ f k = x.2) x.1 cs
  K_len := fun h => d.K_len h
  K_one := fun h => d.K_one h
  K_below := fun hb h => d.K_below hb h
  K_of_M := fun h => d.K_of_M h
  M_mono := fun hok h => d.M_mono (fun k hk => ⟨hok k hk.1, hk.2⟩) h
  M_bound := fun h => d.M_mono (fun _ hk => ⟨⟨hk.1.1, hk.2⟩, hk.1.2⟩) (d.M_bound h)
  M_move := fun hm h => d.M_move (fun k hk => hm k hk.1) h
  M_lower := fun hb h => d.M_lower hb h
/-- The cells themselves. -/
def raw (sz : Nat) : Kd (List Value) where
  sz := sz
  E := []
  K := fun _ x cs => cs = x ∧ cs.length = sz ∧ ∀ u ∈ cs, u.oneCell' = true
  M := fun _ _ _ x cs => cs = x ∧ cs.length = sz ∧ ∀ u ∈ cs, u.oneCell' = true
  K_len := fun h => h.2.1
  K_one := fun h => h.2.2
  K_below := fun _ h => h
  K_of_M := fun h => h
  M_mono := fun _ h => h
  M_bound := fun h => h
  M_move := fun _ h => h
  M_lower := fun _ h => h
/-- A row of elements (type e) of the call's own, no two of which lead to one block. -/
def S {α : Type} (d : Kd α) (e : Nat) (w : World) (base : Nat) (ok : Nat → Prop) (v : Value) (xs : List α) : Prop := ∃ f, (tag f d).R e w base ok v xs.zipIdx
section
variable {α β : Type} {d : Kd α} {d' : Kd β} {e e' : Nat} {w w1 W : World} {base b : Nat} {ok ok' okv oku : Nat → Prop} {u v : Value} {xs : List α} {ys : List β}
theorem S_nil (d : Kd α) (e : Nat) (w : World) (base : Nat) (ok : Nat → Prop) : S d e w base ok (.slice none 0 0) [] := ⟨fun _ => 0, R_nil _ _ _ _ _⟩
end
section
variable {α β : Type} {d : Kd α} {d' : Kd β} {e e' g : Nat} {w w1 W : World} {base b : Nat} {ok ok' okv oku : Nat → Prop} {u v : Value} {xs : List α} {ys : List β}
end
section
variable {P : Program} {ops : Array Oper} {rest : List Oper} {o : Oper} {a : Act} {Q : Exit → Act → World → Prop} {Kc : Act → World → Prop} {α : Type}
end
/-- Element i is these cells; the others are d's. -/
def gap {α : Type} (f : Nat → Nat) (d : Kd α) (i : Nat) (c : List Value) : Kd (α × Nat) where
  sz := d.sz
  E := d.E
  K := fun w x cs => (x.2 = i → cs = c ∧ cs.length = d.sz ∧ ∀ u ∈ cs, u.oneCell' = true) ∧ (x.2 ≠ i → d.K w x.1 cs)
  M := fun w base ok x cs => (x.2 = i → cs = c ∧ cs.length = d.sz ∧ ∀ u ∈ cs, u.oneCell' = true) ∧ (x.2 ≠ i → d.M w base (fun k => ok k ∧ f k = x.2) x.1 cs)
  K_len := fun {w x cs} h => by
    by_cases hx : x.2 = i
    · exact (h.1 hx).2.1
    · exact d.K_len (h.2 hx)
  K_one := fun {w x cs} h => by
    by_cases hx : x.2 = i
    · exact (h.1 hx).2.2
    · exact d.K_one (h.2 hx)
  K_below := fun hb h => ⟨h.1, fun hx => d.K_below hb (h.2 hx)⟩
  K_of_M := fun h => ⟨h.1, fun hx => d.K_of_M (h.2 hx)⟩
  M_mono := fun hok h => ⟨h.1, fun hx => d.M_mono (fun k hk => ⟨hok k hk.1, hk.2⟩) (h.2 hx)⟩
  M_bound := fun h => ⟨h.1, fun hx => d.M_mono (fun _ hk => ⟨⟨hk.1.1, hk.2⟩, hk.1.2⟩) (d.M_bound (h.2 hx))⟩
  M_move := fun hm h => ⟨h.1, fun hx => d.M_move (fun k hk => hm k hk.1) (h.2 hx)⟩
  M_lower := fun hb h => ⟨h.1, fun hx => d.M_lower hb (h.2 hx)⟩
def H {α : Type} (d : Kd α) (e : Nat) (w : World) (base : Nat) (ok : Nat → Prop) (v : Value) (xs : List α) (i : Int) (oki : Nat → Prop) (c : List Value) : Prop :=
  (∀ k, oki k → ok k) ∧ ∃ f, (gap f d i.toNat c).R e w base (fun k => ok k ∧ ¬ oki k) v xs.zipIdx
section
variable {α β : Type} {d : Kd α} {e e' g n cap : Nat} {w w1 W : World} {base : Nat} {ok ok' oki okp : Nat → Prop} {u v : Value} {xs : List α} {i : Int} {c : List Value}
end
section
variable {P : Program} {ops : Array Oper} {rest : List Oper} {o : Oper} {a : Act} {Q : Exit → Act → World → Prop} {α : Type}
end
end Kd
end Go.Proofs.YtfjhnnpdaggnbaaGreatDoorW.PrintWords
end
/-! WArr -/
section
namespace Go.Proofs.YtfjhnnpdaggnbaaGreatDoorW.PrintWords
open Go.RowKit
namespace Kd
section
variable {α : Type} {n : Nat} {d : Kd α} {hs : 0 < d.sz} {w : World} {base : Nat} {ok : Nat → Prop} {xs : List α} {cs : List Value}
end
section
variable {α : Type} {n : Nat} {enc : α → Value} {h1 : ∀ x, (enc x).oneCell' = true} {hs : 0 < (scalar enc h1).sz} {w : World} {base : Nat} {ok : Nat → Prop} {xs : List α} {cs : List Value}
end
end Kd
end Go.Proofs.YtfjhnnpdaggnbaaGreatDoorW.PrintWords
end
/-! WZeros -/
section
namespace Go.Proofs.YtfjhnnpdaggnbaaGreatDoorW.PrintWords
open Go.RowKit
section
variable {P : Program}
end
namespace Kd
section
variable {P : Program} {ops : Array Oper} {rest : List Oper} {o : Oper} {a : Act} {Q : Exit → Act → World → Prop} {Kc : Act → World → Prop} {α : Type}
end
section
variable {α : Type} {d : Kd α} {e : Nat} {w : World} {base : Nat} {ok : Nat → Prop} {v : Value} {xs : List α}
end
section
variable {P : Program} {ops : Array Oper} {rest : List Oper} {o : Oper} {a : Act} {Q : Exit → Act → World → Prop} {Kc : Act → World → Prop} {α : Type}
end
end Kd
end Go.Proofs.YtfjhnnpdaggnbaaGreatDoorW.PrintWords
end
/-! WFoot -/
section
namespace Go.Proofs.YtfjhnnpdaggnbaaGreatDoorW.PrintWords
open Go.RowKit
namespace Kd
/-- What a kind reads lies in the blocks: nothing else of the world is looked at. -/
structure Heap {α : Type} (d : Kd α) : Prop where
  K : ∀ {w w1 : World} {x : α} {cs : List Value}, (∀ k, k < w.heap.size → w1.heap[k]? = w.heap[k]?) → d.K w x cs → d.K w1 x cs
theorem cell_heap {w w1 : World} (hb : ∀ k, k < w.heap.size → w1.heap[k]? = w.heap[k]?) {a : Addr} {v : Value} (h : w.cell? a = some v) : w1.cell? a = some v := by
  have := hb a.block (World.block_lt_of_cell? w a h)
  simpa [World.cell?, this] using h
theorem Heap.C {α : Type} {d : Kd α} (hd : Heap d) {w w1 : World} {A : Option Addr} {n : Nat} {xs : List α} (hb : ∀ k, k < w.heap.size → w1.heap[k]? = w.heap[k]?) (h : d.C w A n xs) : d.C w1 A n xs :=
  ⟨h.1, h.2.1, fun hn => by
    obtain ⟨ad, e, hc⟩ := h.2.2 hn
    refine ⟨ad, e, fun j p hj => ?_⟩
    obtain ⟨c, hs, hr, hcell⟩ := hc j p hj
    exact ⟨c, hs, hd.K hb hr, fun i u hu => cell_heap hb (hcell i u hu)⟩⟩
section
variable {α : Type} {d : Kd α} {e base g n c : Nat} {ok : Nat → Prop} {w w0 W : World} {A : Option Addr} {xs : List α}
end
end Kd
end Go.Proofs.YtfjhnnpdaggnbaaGreatDoorW.PrintWords
end
/-! WKept -/
section
namespace Go.Proofs.YtfjhnnpdaggnbaaGreatDoorW.PrintWords
open Go.RowKit
def Kept (w W : World) (S : Nat → Prop) : Prop := w.heap.size ≤ W.heap.size ∧ ∀ i, i < w.heap.size → ¬ S i → W.heap[i]? = w.heap[i]?
section
variable {w W W2 : World} {S S2 S' : Nat → Prop}
theorem Kept.refl (w : World) (S : Nat → Prop) : Kept w w S := ⟨Nat.le_refl _, fun _ _ _ => rfl⟩
theorem Kept.of_below (h : Below w.heap.size w W) (S : Nat → Prop) : Kept w W S := ⟨h.size, fun i hi _ => h.block i hi⟩
theorem Kept.mono (h : Kept w W S) (hs : ∀ k, S k → S' k) : Kept w W S' := ⟨h.1, fun i hi hn => h.2 i hi (fun hk => hn (hs i hk))⟩
theorem Kept.then_ (h : Kept w W S) (k : Kept W W2 S2) (hs : ∀ k, S2 k → S k ∨ w.heap.size ≤ k) : Kept w W2 S :=
  ⟨Nat.le_trans h.1 k.1, fun i hi hn => (k.2 i (Nat.lt_of_lt_of_le hi h.1) (fun h2 => (hs i h2).elim hn (fun h3 => by omega))).trans (h.2 i hi hn)⟩
theorem Kept.below (h : Kept w W S) (hb : Below W.heap.size W W2) : Kept w W2 S := h.then_ (Kept.of_below hb (fun _ => False)) (fun _ hk => hk.elim)
theorem Kept.alloc (h : Kept w W S) (o : Obj) : Kept w (W.alloc o) S := h.below (below_alloc (Below.refl _ _) o)
theorem Kept.drew (h : Kept w W S) : Kept w W.drew S := h
theorem Kept.drewN (h : Kept w W S) (m : Nat) : Kept w (W.drewN m) S := h
theorem Kept.setCell (h : Kept w W S) {p : Addr} (hp : S p.block ∨ w.heap.size ≤ p.block) (u : Value) : Kept w (W.setCell p u) S :=
  h.then_ (S2 := fun k => k = p.block) ⟨by simp [World.setCell], fun i _ hn => Below.heap_setCell W p u i hn⟩ (fun k hk => by rw [hk]; exact hp)
/-- Beside a state: what was written is new since. -/
theorem Kept.keep {g : Nat} (h : KeepBut w W g none) (k : Kept W W2 S2) (hs : ∀ k, S2 k → w.heap.size ≤ k) : KeepBut w W2 g none :=
  ⟨Nat.le_trans h.1 k.1, fun i hi hg hr => (k.2 i (Nat.lt_of_lt_of_le hi h.1) (fun h2 => by have := hs i h2; omega)).trans (h.2 i hi hg hr)⟩
end
namespace Kd
section
variable {α : Type} {d : Kd α} {e base n c : Nat} {ok oki S S2 : Nat → Prop} {w w0 W W1 W2 : World} {v : Value} {A : Option Addr} {xs : List α} {i : Int} {cs : List Value}
end
end Kd
end Go.Proofs.YtfjhnnpdaggnbaaGreatDoorW.PrintWords
end
/-! WShare -/
section
namespace Go.Proofs.YtfjhnnpdaggnbaaGreatDoorW.PrintWords
open Go.RowKit
/-- P holds in W and in every world that has W's blocks of ok. -/
def Foot (P : World → Prop) (W : World) (ok : Nat → Prop) : Prop := ∀ W' : World, (∀ k, ok k → k < W.heap.size → W'.heap[k]? = W.heap[k]?) → P W'
theorem heap_lt {W W1 : World} {k : Nat} (h : W1.heap[k]? = W.heap[k]?) (hlt : k < W.heap.size) : k < W1.heap.size := by
  rw [Array.getElem?_eq_getElem hlt] at h
  exact (Array.getElem?_eq_some_iff.1 h).1
namespace Foot
variable {P Q : World → Prop} {W W1 : World} {ok ok' : Nat → Prop}
theorem now (h : Foot P W ok) : P W := h W (fun _ _ _ => rfl)
theorem mono (h : Foot P W ok) (hok : ∀ k, ok k → ok' k) : Foot P W ok' := fun W' hW => h W' (fun k hk hlt => hW k (hok k hk) hlt)
theorem bound (h : Foot P W ok) : Foot P W (fun k => ok k ∧ k < W.heap.size) := fun W' hW => h W' (fun k hk hlt => hW k ⟨hk, hlt⟩ hlt)
theorem step (h : Foot P W ok) (hm : ∀ k, ok k → k < W.heap.size → W1.heap[k]? = W.heap[k]?) : Foot P W1 ok := fun W' hW => h W' (fun k hk hlt => (hW k hk (heap_lt (hm k hk hlt) hlt)).trans (hm k hk hlt))
theorem imp (h : Foot P W ok) (hi : ∀ W', P W' → Q W') : Foot Q W ok := fun W' hW => hi W' (h W' hW)
/-- Moved, and still elder than what is new since W. -/
theorem old (h : Foot P W ok) (hb : Below W.heap.size W W1) : Foot P W1 (fun k => ok k ∧ k < W.heap.size) := (h.bound).step (fun k _ hlt => hb.block k hlt)
end Foot
namespace Kd
/-- A row that is only read: what it leads to lies in ok. -/
def F {α : Type} (d : Kd α) (W : World) (ok : Nat → Prop) (A : Option Addr) (n : Nat) (xs : List α) : Prop := Foot (fun W => d.C W A n xs) W ok
/-- An element's cells: what they lead to lies in ok. -/
def FK {α : Type} (d : Kd α) (W : World) (ok : Nat → Prop) (x : α) (c : List Value) : Prop := Foot (fun W => d.K W x c) W ok
section
variable {α β : Type} {d : Kd α} {e base n n' cc g N : Nat} {ok ok' okp S : Nat → Prop} {w w0 w1 W W1 : World} {A A' : Option Addr} {u v v1 : Value} {xs : List α} {xs' : List β} {d' : Kd β} {x : α} {c : List Value}
theorem F_nil (d : Kd α) (W : World) (ok : Nat → Prop) : F d W ok none ([] : List α).length [] := fun W' _ => C_nil d W'
theorem FK_of_M (h : d.M W base ok x c) : FK d W ok x c := fun _ hW => d.K_of_M (M_step h hW)
end
end Kd
end Go.Proofs.YtfjhnnpdaggnbaaGreatDoorW.PrintWords
end
/-! WN -/
section
namespace Go.Proofs.YtfjhnnpdaggnbaaGreatDoorW.PrintWords
open Go.RowKit
namespace Kd
/-- The cells one behind the other, element by element. -/
def chunks (sz : Nat) (n : Nat) (inner : List Value) : List (List Value) := (List.range n).map fun j => (inner.drop (j * sz)).take sz
theorem chunks_length (sz n : Nat) (inner : List Value) : (chunks sz n inner).length = n := by simp [chunks]
theorem chunks_at {sz n : Nat} {inner : List Value} {j : Nat} (hj : j < n) : (chunks sz n inner)[j]? = some ((inner.drop (j * sz)).take sz) := by simp [chunks, hj]
theorem chunks_get {sz n : Nat} {inner : List Value} {j : Nat} {c : List Value} (h : (chunks sz n inner)[j]? = some c) : c = (inner.drop (j * sz)).take sz := by
  have hj : j < n := by have := (List.getElem?_eq_some_iff.1 h).1; rwa [chunks_length] at this
  rw [chunks_at hj] at h
  injection h with h
  exact h.symm
theorem reps_raw {α : Type} {Rr : α → List Value → Prop} {sz : Nat} {xs : List α} {inner : List Value} (h : Reps Rr sz xs inner) (hR : ∀ x c, Rr x c → c.length = sz ∧ ∀ u ∈ c, u.oneCell' = true) : Reps (fun x cs => cs = x ∧ cs.length = sz ∧ ∀ u ∈ cs, u.oneCell' = true) sz (chunks sz xs.length inner) inner := by
  refine ⟨by rw [chunks_length]; exact h.1, fun j p hj => ?_⟩
  have hjl : j < xs.length := by have := (List.getElem?_eq_some_iff.1 hj).1; rwa [chunks_length] at this
  have hp := chunks_get hj
  exact ⟨hp.symm, hR _ _ (h.2 j _ (List.getElem?_eq_getElem hjl))⟩
section
variable {α : Type} {d : Kd α} {e base n cc g : Nat} {ok ok' okp S : Nat → Prop} {w w1 W W1 : World} {A : Option Addr} {u v v1 : Value} {xs : List α} {x : α} {c : List Value}
/-- A row of elements (type e) of the call's own; what the elements lead to is only read, and is not this row. -/
def N {α : Type} (d : Kd α) (e : Nat) (w : World) (base : Nat) (ok : Nat → Prop) (v : Value) (xs : List α) : Prop :=
  (∀ k, v.ownBlock = some k → ok k) ∧ ∃ rows : List (List Value), rows.length = xs.length ∧ (raw d.sz).R e w base (fun k => some k = v.ownBlock) v rows ∧ ∀ (j : Nat) (x : α) (c : List Value), xs[j]? = some x → rows[j]? = some c → FK d w (fun k => ok k ∧ some k ≠ v.ownBlock) x c
theorem R_N (h : d.R e w base ok v xs) : N d e w base ok v xs := by
  obtain ⟨h0, inner, ho, hr⟩ := h
  refine ⟨h0, chunks d.sz xs.length inner, chunks_length _ _ _, ⟨fun k hk => hk.symm, inner, by rw [chunks_length]; exact ho, reps_raw hr (fun x c hp => ⟨d.K_len (d.K_of_M hp), d.K_one (d.K_of_M hp)⟩)⟩, fun j x c hx hc => ?_⟩
  rw [chunks_get hc]
  exact FK_of_M (hr.2 j x hx)
theorem N_nil (d : Kd α) (e : Nat) (w : World) (base : Nat) (ok : Nat → Prop) : N d e w base ok (.slice none 0 0) [] := R_N (R_nil _ _ _ _ _)
end
end Kd
end Go.Proofs.YtfjhnnpdaggnbaaGreatDoorW.PrintWords
end
/-! WFootNe -/
section
namespace Go.Proofs.YtfjhnnpdaggnbaaGreatDoorW.PrintWords
open Go.RowKit
namespace Kd
section
variable {α : Type} {d : Kd α} {W : World} {g n : Nat} {S ok : Nat → Prop} {A : Option Addr} {ad : Addr} {xs : List α}
end
end Kd
end Go.Proofs.YtfjhnnpdaggnbaaGreatDoorW.PrintWords
end
/-! WAt -/
section
namespace Go.Proofs.YtfjhnnpdaggnbaaGreatDoorW.PrintWords
open Go.RowKit
section
variable {w w' u : World} {m B g : Nat} {o : Obj} {row : Option Nat} {S : Nat → Prop} {a : Addr} {v : Value}
end
namespace Kd
section
variable {α : Type} {d : Kd α} {e base n m : Nat} {ok : Nat → Prop} {w w' : World} {v : Value} {A : Option Addr} {xs : List α}
end
end Kd
end Go.Proofs.YtfjhnnpdaggnbaaGreatDoorW.PrintWords
end
/-! WEqStruct -/
section
namespace Go.Proofs.YtfjhnnpdaggnbaaGreatDoorW.PrintWords
open Go.RowKit
section
variable {P : Program} {d : Nat} {xs ys : Array Value} {f : Field} {fs : List Field} {a b : Value} {r s : Bool} {w : World}
/-- The last field that counts. -/
theorem eqf_last (hn : (f.name == "_") = false) (ha : (part f.type xs f.offset).run P w = .ok a w) (hb : (part f.type ys f.offset).run P w = .ok b w) (he : (Op.equalIn d f.type a b).run P w = .ok r w) : (Op.eqFields d xs ys [f]).run P w = .ok r w := by
  have hn' : f.name ≠ "_" := by simpa using hn
  simp only [Op.eqFields, if_pos hn', Sem.run_bind, ha, hb, he, Result.andThen_ok]
  cases r <;> simp
theorem eqA_of {t : TypeId} {fs : Array Field} (hu : P.underlying t = some (.struct fs)) (hp : P.stoodInHeld t = false) (h : (Op.eqFields d xs ys fs.toList).run P w = .ok r w) : (Op.equalIn (d + 1) t (.agg xs) (.agg ys)).run P w = .ok r w := by
  have hf : P.fieldsOf t = fs := by simp [Program.fieldsOf, hu]
  rw [run_equalIn_struct (P := P) w d t xs ys (by rw [hf]; exact hu) hp, hf]
  exact h
end
end Go.Proofs.YtfjhnnpdaggnbaaGreatDoorW.PrintWords
end
/-! WRepsOne -/
section
namespace Go.Proofs.YtfjhnnpdaggnbaaGreatDoorW.PrintWords
/-- One cell an element. -/
theorem Reps.one {α : Type} {R : α → List Value → Prop} {ps : List α} {cs : List Value} {p : α} {v : Value} (hp : R p [v]) (h : Reps R 1 ps cs) : Reps R 1 (p :: ps) (v :: cs) := by
  refine ⟨by simp [h.1], fun j q hq => ?_⟩
  cases j with
  | zero =>
    simp only [List.getElem?_cons_zero, Option.some.injEq] at hq
    subst hq
    simpa using hp
  | succ j =>
    simp only [List.getElem?_cons_succ] at hq
    have h1 := h.2 j q hq
    simpa [Nat.mul_one] using h1
/-- More cells an element: told apart by the cells' list. -/
theorem Reps.front {α : Type} {R : α → List Value → Prop} {size : Nat} {ps : List α} {cs c all : List Value} {p : α} (hp : R p c) (hc : c.length = size) (h : Reps R size ps cs) (ha : c ++ cs = all) : Reps R size (p :: ps) all := by
  subst ha
  refine ⟨by rw [List.length_append, hc, h.1, List.length_cons, Nat.succ_mul, Nat.add_comm], fun j q hq => ?_⟩
  cases j with
  | zero =>
    simp only [List.getElem?_cons_zero, Option.some.injEq] at hq
    subst hq
    rw [Nat.zero_mul, List.drop_zero, List.take_append_of_le_length (by omega), List.take_of_length_le (by omega)]
    exact hp
  | succ j =>
    simp only [List.getElem?_cons_succ] at hq
    have h1 := h.2 j q hq
    rw [Nat.succ_mul, List.drop_append, List.drop_of_length_le (by rw [hc]; exact Nat.le_add_left _ _), List.nil_append, hc, Nat.add_sub_cancel]
    exact h1
theorem Reps.c2 {α : Type} {R : α → List Value → Prop} {ps : List α} {cs : List Value} {p : α} {va vb : Value} (hp : R p [va, vb]) (h : Reps R 2 ps cs) : Reps R 2 (p :: ps) (va :: vb :: cs) := Reps.front hp rfl h rfl
theorem Reps.c3 {α : Type} {R : α → List Value → Prop} {ps : List α} {cs : List Value} {p : α} {va vb vc : Value} (hp : R p [va, vb, vc]) (h : Reps R 3 ps cs) : Reps R 3 (p :: ps) (va :: vb :: vc :: cs) := Reps.front hp rfl h rfl
theorem Reps.c4 {α : Type} {R : α → List Value → Prop} {ps : List α} {cs : List Value} {p : α} {va vb vc vd : Value} (hp : R p [va, vb, vc, vd]) (h : Reps R 4 ps cs) : Reps R 4 (p :: ps) (va :: vb :: vc :: vd :: cs) := Reps.front hp rfl h rfl
theorem Reps.c5 {α : Type} {R : α → List Value → Prop} {ps : List α} {cs : List Value} {p : α} {va vb vc vd ve : Value} (hp : R p [va, vb, vc, vd, ve]) (h : Reps R 5 ps cs) : Reps R 5 (p :: ps) (va :: vb :: vc :: vd :: ve :: cs) := Reps.front hp rfl h rfl
theorem Reps.c6 {α : Type} {R : α → List Value → Prop} {ps : List α} {cs : List Value} {p : α} {va vb vc vd ve vf : Value} (hp : R p [va, vb, vc, vd, ve, vf]) (h : Reps R 6 ps cs) : Reps R 6 (p :: ps) (va :: vb :: vc :: vd :: ve :: vf :: cs) := Reps.front hp rfl h rfl
theorem Reps.c7 {α : Type} {R : α → List Value → Prop} {ps : List α} {cs : List Value} {p : α} {va vb vc vd ve vf vg : Value} (hp : R p [va, vb, vc, vd, ve, vf, vg]) (h : Reps R 7 ps cs) : Reps R 7 (p :: ps) (va :: vb :: vc :: vd :: ve :: vf :: vg :: cs) := Reps.front hp rfl h rfl
theorem Reps.c8 {α : Type} {R : α → List Value → Prop} {ps : List α} {cs : List Value} {p : α} {va vb vc vd ve vf vg vh : Value} (hp : R p [va, vb, vc, vd, ve, vf, vg, vh]) (h : Reps R 8 ps cs) : Reps R 8 (p :: ps) (va :: vb :: vc :: vd :: ve :: vf :: vg :: vh :: cs) := Reps.front hp rfl h rfl
theorem Reps.c9 {α : Type} {R : α → List Value → Prop} {ps : List α} {cs : List Value} {p : α} {va vb vc vd ve vf vg vh vi : Value} (hp : R p [va, vb, vc, vd, ve, vf, vg, vh, vi]) (h : Reps R 9 ps cs) : Reps R 9 (p :: ps) (va :: vb :: vc :: vd :: ve :: vf :: vg :: vh :: vi :: cs) := Reps.front hp rfl h rfl
end Go.Proofs.YtfjhnnpdaggnbaaGreatDoorW.PrintWords
end
/-! WInv -/
section
namespace Go.Proofs.YtfjhnnpdaggnbaaGreatDoorW.PrintLast
/-- Number i is listed too. -/
def up (b : Nat → Bool) (i : Nat) : Nat → Bool := fun j => if j = i then true else b j
section
variable {P : Program} {ops : Array Oper} {Q : Exit → Act → World → Prop} {md : Region.Mode} {T : Bool × List (List Nat × List Nat)} {B : List Nat} {O : List Nat} {b : Nat → Bool} {i j n : Nat}
end
end Go.Proofs.YtfjhnnpdaggnbaaGreatDoorW.PrintLast
end
/-! WInvWords -/
section
namespace Go.Proofs.YtfjhnnpdaggnbaaGreatDoorW.PrintWords
open Go.RowKit
end Go.Proofs.YtfjhnnpdaggnbaaGreatDoorW.PrintWords
namespace Go.Proofs.YtfjhnnpdaggnbaaGreatDoorW.PrintLast
section
variable {ops : Array Oper} {a : Act} {o og : Oper} {g : Nat} {t : Tmp} {u : Bool}
end
end Go.Proofs.YtfjhnnpdaggnbaaGreatDoorW.PrintLast
end
/-! WGuard -/
section
namespace Go.Proofs.YtfjhnnpdaggnbaaGreatDoorW.PrintWords
open Go.RowKit
section
variable {P : Program} {ops : Array Oper} {rest : List Oper} {o : Oper} {a : Act} {Q : Exit → Act → World → Prop} {W : World}
end
end Go.Proofs.YtfjhnnpdaggnbaaGreatDoorW.PrintWords
end
/-! WNEv -/
section
namespace Go.Proofs.YtfjhnnpdaggnbaaGreatDoorW.PrintWords
open Go.RowKit
namespace Kd
section
variable {α : Type} {d : Kd α} {e base n cap g : Nat} {ok ok' okp : Nat → Prop} {w w1 W : World} {v v1 : Value} {xs ys : List α}
end
section
variable {P : Program} {ops : Array Oper} {rest : List Oper} {o : Oper} {a : Act} {Q : Exit → Act → World → Prop} {Kc : Act → World → Prop} {α : Type}
end
end Kd
end Go.Proofs.YtfjhnnpdaggnbaaGreatDoorW.PrintWords
end
/-! WMore -/
section
namespace Go.Proofs.YtfjhnnpdaggnbaaGreatDoorW.PrintMore
open Go.RowKit Go.Proofs.YtfjhnnpdaggnbaaGreatDoorW.PrintWords
namespace Kd
open Go.Proofs.YtfjhnnpdaggnbaaGreatDoorW.PrintWords.Kd
end Kd
namespace Kd
open Go.Proofs.YtfjhnnpdaggnbaaGreatDoorW.PrintWords.Kd
section
variable {α : Type} {d : Kd α} {e base g N : Nat} {ok : Nat → Prop} {W w1 : World} {u v : Value} {xs : List α}
end
end Kd
/-- 'max' and 'min' of two whole numbers. -/
theorem max2_int (k k' : IntKind) (x y : Int) : Builtin.max2 (.int k x) (.int k' y) = pure (.int k (if x < y then y else x)) := by simp only [Builtin.max2, gt_iff_lt]
theorem min2_int (k k' : IntKind) (x y : Int) : Builtin.min2 (.int k x) (.int k' y) = pure (.int k (if y < x then y else x)) := by simp only [Builtin.min2]
theorem max_two (ats : Array TypeId) (ty : TypeId) (a b : Value) : Builtin.max_ ats ty #[a, b] = (Builtin.max2 a b >>= fun s => pure s) := by simp only [Builtin.max_, List.foldlM_cons, List.foldlM_nil]
theorem min_two (ats : Array TypeId) (ty : TypeId) (a b : Value) : Builtin.min_ ats ty #[a, b] = (Builtin.min2 a b >>= fun s => pure s) := by simp only [Builtin.min_, List.foldlM_cons, List.foldlM_nil]
theorem max_three (ats : Array TypeId) (ty : TypeId) (a b c : Value) : Builtin.max_ ats ty #[a, b, c] = (Builtin.max2 a b >>= fun s => Builtin.max2 s c >>= fun s => pure s) := by simp only [Builtin.max_, List.foldlM_cons, List.foldlM_nil]
theorem min_three (ats : Array TypeId) (ty : TypeId) (a b c : Value) : Builtin.min_ ats ty #[a, b, c] = (Builtin.min2 a b >>= fun s => Builtin.min2 s c >>= fun s => pure s) := by simp only [Builtin.min_, List.foldlM_cons, List.foldlM_nil]
theorem max_four (ats : Array TypeId) (ty : TypeId) (a b c d : Value) : Builtin.max_ ats ty #[a, b, c, d] = (Builtin.max2 a b >>= fun s => Builtin.max2 s c >>= fun s => Builtin.max2 s d >>= fun s => pure s) := by simp only [Builtin.max_, List.foldlM_cons, List.foldlM_nil]
theorem min_four (ats : Array TypeId) (ty : TypeId) (a b c d : Value) : Builtin.min_ ats ty #[a, b, c, d] = (Builtin.min2 a b >>= fun s => Builtin.min2 s c >>= fun s => Builtin.min2 s d >>= fun s => pure s) := by simp only [Builtin.min_, List.foldlM_cons, List.foldlM_nil]
end Go.Proofs.YtfjhnnpdaggnbaaGreatDoorW.PrintMore
namespace Go.Proofs.YtfjhnnpdaggnbaaGreatDoorW.PrintWords
open Go.RowKit
section
variable {P : Program} {ops : Array Oper} {rest : List Oper} {o : Oper} {a : Act} {Q : Exit → Act → World → Prop} {W : World}
/-- The operation is a call of this function (a cheap look ahead of a dear step). -/
theorem gate_callee {f : FuncId} {as_ : Array Operand} {ts : Array TypeId} (_ho : o.op = .call { callee := .value (.func f), args := as_, argTypes := ts }) (h : wpList P ops Q (o :: rest) a W) : wpList P ops Q (o :: rest) a W := h
/-- The operation is a builtin over these places. -/
theorem gate_builtin {b : Builtin} {xs : Array Operand} {ts : Array TypeId} (_ho : o.op = .call { callee := .builtin b, args := xs, argTypes := ts }) (h : wpList P ops Q (o :: rest) a W) : wpList P ops Q (o :: rest) a W := h
end
/-- The greater of two whole numbers, as_ Go's max tells it. -/
def mx (a b : Int) : Int := if a < b then b else a
/-- The smaller of two whole numbers, as_ Go's min tells it. -/
def mn (a b : Int) : Int := if b < a then b else a
/-- A shift to the left, as_ Go tells it: a count beyond the width leaves nothing. -/
def shl (k : IntKind) (x y : Int) : Int := k.wrap (x * 2 ^ min y.toNat k.bits)
/-- A shift to the right: a count beyond the width leaves the sign. -/
def shr (k : IntKind) (x y : Int) : Int := x / 2 ^ min y.toNat k.bits
theorem shl_small {k : IntKind} {x y j : Int} (h : shl k x y = j) (hy : y ≤ k.bits) : k.wrap (x * 2 ^ y.toNat) = j := by rw [← h]; unfold shl; rw [Nat.min_eq_left (by omega)]
theorem shr_small {k : IntKind} {x y j : Int} (h : shr k x y = j) (hy : y ≤ k.bits) : x / 2 ^ y.toNat = j := by rw [← h]; unfold shr; rw [Nat.min_eq_left (by omega)]
namespace Kd
section
variable {α : Type} {d : Kd α} {e base : Nat} {ok : Nat → Prop} {W w1 : World} {v : Value} {xs : List α}
end
section
variable {α : Type} {d : Kd α} {e base g n cap : Nat} {ok oki okp : Nat → Prop} {W : World} {xs : List α} {i : Int} {c : List Value}
end
section
variable {α : Type} {d : Kd α} {e base b b' g N : Nat} {ok ok1 : Nat → Prop} {W W2 w1 : World} {u v : Value} {xs ys : List α} {S : Nat → Prop}
end
end Kd
end Go.Proofs.YtfjhnnpdaggnbaaGreatDoorW.PrintWords
namespace Go.Proofs.YtfjhnnpdaggnbaaGreatDoorW.PrintWords
open Go.RowKit
namespace Kd
/-- A row that is only read, told by its value: its form, its length, what it leads to (in ok). e and base say nothing; they make it as_ the others are. -/
def V {α : Type} (d : Kd α) (_e : Nat) (W : World) (_base : Nat) (ok : Nat → Prop) (v : Value) (xs : List α) : Prop := ∃ A c, v = .slice A xs.length c ∧ xs.length ≤ c ∧ F d W ok A xs.length xs
section
variable {α β : Type} {d : Kd α} {e base base' n m c g N' lo hi : Nat} {ok ok' S : Nat → Prop} {w W w1 : World} {A : Option Addr} {ad : Addr} {u v v1 : Value} {xs : List α}
theorem V_nil (d : Kd α) (e : Nat) (W : World) (base : Nat) (ok : Nat → Prop) : V d e W base ok (.slice none 0 0) [] := ⟨none, 0, rfl, Nat.le_refl _, F_nil d W ok⟩
end
end Kd
end Go.Proofs.YtfjhnnpdaggnbaaGreatDoorW.PrintWords
end
/-! Px0 -/
section
namespace Go.Proofs.YtfjhnnpdaggnbaaGreatDoor.P
open Go.RowKit Go.Proofs.YtfjhnnpdaggnbaaGreatDoorW.PrintWords Go.Proofs.YtfjhnnpdaggnbaaGreatDoorW.PrintLast Go.Proofs.YtfjhnnpdaggnbaaGreatDoorW.PrintMore
attribute [local go_sem] max2_int min2_int max_two min_two max_three min_three max_four min_four   -- for this text's walks alone
set_option linter.unusedVariables false
set_option linter.unusedSimpArgs false
def errW : Option Int → Value
  | none => .nilIface
  | some c => .iface 0 (.int .i64 c)
theorem errW_none : errW none = .nilIface := rfl
theorem errW_some (c : Int) : errW (some c) = .iface 0 (.int .i64 c) := rfl
theorem info5 : (Tryz.prog.info? 5).map (fun i => (i.zero, i.size, i.bytes)) = some (some (.int .u8 0), 1, 1) := by kernel_rfl
theorem info63 : (Tryz.prog.info? 63).map (fun i => (i.zero, i.size, i.bytes)) = some (some (.agg #[(.int .i64 0), (.int .i64 0), (.int .i64 0)]), 3, 24) := by kernel_rfl
structure S63 where
  f0 : Int
  f1 : Int
  f2 : Int
def z63 : S63 := ⟨(0 : Int), (0 : Int), (0 : Int)⟩
def k63 : Kd S63 := Kd.iso (Kd.pair (Kd.int .i64) (Kd.pair (Kd.int .i64) (Kd.int .i64))) (fun x : S63 => (x.f0, x.f1, x.f2))
theorem k63_openM {w : World} {base : Nat} {ok : Nat → Prop} {x : S63} {cs : List Value} (h : k63.M w base ok x cs) : cs = [.int .i64 x.f0, .int .i64 x.f1, .int .i64 x.f2] := by
  obtain ⟨_, _, rfl, rfl, ⟨_, _, rfl, rfl, rfl⟩⟩ := h
  exact rfl
theorem k63_mkM (w : World) (base : Nat) (ok : Nat → Prop) (x : S63)  : k63.M w base ok x [.int .i64 x.f0, .int .i64 x.f1, .int .i64 x.f2] := ⟨[.int .i64 x.f0], [.int .i64 x.f1, .int .i64 x.f2], rfl, rfl, ⟨[.int .i64 x.f1], [.int .i64 x.f2], rfl, rfl, rfl⟩⟩
structure S84 where
  f0 : Int
  f1 : Int
  f2 : Int
def z84 : S84 := ⟨(0 : Int), (0 : Int), (0 : Int)⟩
def k84 : Kd S84 := Kd.iso (Kd.pair (Kd.int .i64) (Kd.pair (Kd.int .i64) (Kd.int .i64))) (fun x : S84 => (x.f0, x.f1, x.f2))
theorem k84_openM {w : World} {base : Nat} {ok : Nat → Prop} {x : S84} {cs : List Value} (h : k84.M w base ok x cs) : cs = [.int .i64 x.f0, .int .i64 x.f1, .int .i64 x.f2] := by
  obtain ⟨_, _, rfl, rfl, ⟨_, _, rfl, rfl, rfl⟩⟩ := h
  exact rfl
theorem k84_mkM (w : World) (base : Nat) (ok : Nat → Prop) (x : S84)  : k84.M w base ok x [.int .i64 x.f0, .int .i64 x.f1, .int .i64 x.f2] := ⟨[.int .i64 x.f0], [.int .i64 x.f1, .int .i64 x.f2], rfl, rfl, ⟨[.int .i64 x.f1], [.int .i64 x.f2], rfl, rfl, rfl⟩⟩
end Go.Proofs.YtfjhnnpdaggnbaaGreatDoor.P
end
/-! Px3 -/
section
namespace Go.Proofs.YtfjhnnpdaggnbaaGreatDoor.P
open Go.RowKit Go.Proofs.YtfjhnnpdaggnbaaGreatDoorW.PrintWords Go.Proofs.YtfjhnnpdaggnbaaGreatDoorW.PrintLast Go.Proofs.YtfjhnnpdaggnbaaGreatDoorW.PrintMore
attribute [local go_sem] max2_int min2_int max_two min_two max_three min_three max_four min_four   -- for this text's walks alone
set_option linter.unusedVariables false
set_option linter.unusedSimpArgs false
def sha1_mixed.f (a0 : Int) (a1 : Int) (a2 : Int) (a3 : Int) : Option (Int) := if ((mx 0 (mn a0 79)) / 20) = 0 then (some (((Go.bits .or .u32 (Go.bits .and .u32 a1 a2) (Go.bits .and .u32 (Go.bits .xor .u32 IntKind.u32.max a1) a3)) + 1518500249) % 4294967296)) else (if ((mx 0 (mn a0 79)) / 20) = 1 then (some (((Go.bits .xor .u32 (Go.bits .xor .u32 a1 a2) a3) + 1859775393) % 4294967296)) else (if ((mx 0 (mn a0 79)) / 20) = 2 then (some (((Go.bits .or .u32 (Go.bits .or .u32 (Go.bits .and .u32 a1 a2) (Go.bits .and .u32 a1 a3)) (Go.bits .and .u32 a2 a3)) + 2400959708) % 4294967296)) else (some (((Go.bits .xor .u32 (Go.bits .xor .u32 a1 a2) a3) + 3395469782) % 4294967296))))
set_option maxHeartbeats 8000000 in
set_option maxRecDepth 100000 in
theorem sha1_mixed.calls (a0 : Int) (a1 : Int) (a2 : Int) (a3 : Int) (r : Int) (w : World) (h : sha1_mixed.f a0 a1 a2 a3 = some r) :
    Calls Tryz.prog 82 #[.int .i64 a0, .int .u32 a1, .int .u32 a2, .int .u32 a3] w fun e w' => e = .returned (.int .u32 r) ∧ Below w.heap.size w w' := by
  have HB := Aside0.mk (Below.refl w.heap.size w)
  have H : (if ((mx 0 (mn a0 79)) / 20) = 0 then (some (((Go.bits .or .u32 (Go.bits .and .u32 a1 a2) (Go.bits .and .u32 (Go.bits .xor .u32 IntKind.u32.max a1) a3)) + 1518500249) % 4294967296)) else (if ((mx 0 (mn a0 79)) / 20) = 1 then (some (((Go.bits .xor .u32 (Go.bits .xor .u32 a1 a2) a3) + 1859775393) % 4294967296)) else (if ((mx 0 (mn a0 79)) / 20) = 2 then (some (((Go.bits .or .u32 (Go.bits .or .u32 (Go.bits .and .u32 a1 a2) (Go.bits .and .u32 a1 a3)) (Go.bits .and .u32 a2 a3)) + 2400959708) % 4294967296)) else (some (((Go.bits .xor .u32 (Go.bits .xor .u32 a1 a2) a3) + 3395469782) % 4294967296))))) = some r := h
  clear h
  obtain ⟨ji5, hji5⟩ : ∃ j_ : Int, (mn a0 79) = j_ := ⟨_, rfl⟩
  replace H : (if ((mx 0 (ji5)) / 20) = 0 then (some (((Go.bits .or .u32 (Go.bits .and .u32 a1 a2) (Go.bits .and .u32 (Go.bits .xor .u32 IntKind.u32.max a1) a3)) + 1518500249) % 4294967296)) else (if ((mx 0 (ji5)) / 20) = 1 then (some (((Go.bits .xor .u32 (Go.bits .xor .u32 a1 a2) a3) + 1859775393) % 4294967296)) else (if ((mx 0 (ji5)) / 20) = 2 then (some (((Go.bits .or .u32 (Go.bits .or .u32 (Go.bits .and .u32 a1 a2) (Go.bits .and .u32 a1 a3)) (Go.bits .and .u32 a2 a3)) + 2400959708) % 4294967296)) else (some (((Go.bits .xor .u32 (Go.bits .xor .u32 a1 a2) a3) + 3395469782) % 4294967296))))) = some r := by first | (rw [hji5] at H; exact H) | (simp only [hji5] at H ⊢; exact H)
  (try (have hji5h : ji5 ≤ 79 := by (rw [← hji5]; unfold mn; (repeat' split) <;> omega)))
  (try (have hji5g : ji5 ≤ 64 := by omega))
  have hji5_ : (if 79 < a0 then 79 else a0) = ji5 := hji5
  obtain ⟨ji6, hji6⟩ : ∃ j_ : Int, (mx 0 (ji5)) = j_ := ⟨_, rfl⟩
  replace H : (if ((ji6) / 20) = 0 then (some (((Go.bits .or .u32 (Go.bits .and .u32 a1 a2) (Go.bits .and .u32 (Go.bits .xor .u32 IntKind.u32.max a1) a3)) + 1518500249) % 4294967296)) else (if ((ji6) / 20) = 1 then (some (((Go.bits .xor .u32 (Go.bits .xor .u32 a1 a2) a3) + 1859775393) % 4294967296)) else (if ((ji6) / 20) = 2 then (some (((Go.bits .or .u32 (Go.bits .or .u32 (Go.bits .and .u32 a1 a2) (Go.bits .and .u32 a1 a3)) (Go.bits .and .u32 a2 a3)) + 2400959708) % 4294967296)) else (some (((Go.bits .xor .u32 (Go.bits .xor .u32 a1 a2) a3) + 3395469782) % 4294967296))))) = some r := by first | (rw [hji6] at H; exact H) | (simp only [hji6] at H ⊢; exact H)
  have hji6_ : (if 0 < (ji5) then (ji5) else 0) = ji6 := hji6
  by_cases c7 : ((ji6) / 20) = 0
  · rw [if_pos c7] at H
    have c7b0 : (((ji6) / 20) == 0) = true := beq_iff_eq.mpr c7
    have c7b1 : (((ji6) / 20) != 0) = false := bne_eq_false_iff_eq.mpr c7
    clear c7
    obtain rfl := Option.some.inj H
    go_enter Tryz.func82, Tryz.ntmps82
    go_wp2
    go_ret
    exact ⟨by first | rfl | (simp [errW_none, errW_some] <;> rfl) | (simp only [← hji5, ← hji6]; first | rfl | (simp [errW_none, errW_some] <;> rfl)) | (simp [*, errW_none, errW_some] <;> rfl), by repeat (first | (with_reducible first | exact HB.out | apply below_alloc | apply pw_below_drewN | apply below_drew1) | exact HB.out)⟩
  · rw [if_neg c7] at H
    have c7b0 : (((ji6) / 20) == 0) = false := beq_eq_false_iff_ne.mpr c7
    have c7b1 : (((ji6) / 20) != 0) = true := bne_iff_ne.mpr c7
    by_cases c8 : ((ji6) / 20) = 1
    · rw [if_pos c8] at H
      have c8b0 : (((ji6) / 20) == 1) = true := beq_iff_eq.mpr c8
      have c8b1 : (((ji6) / 20) != 1) = false := bne_eq_false_iff_eq.mpr c8
      clear c8
      obtain rfl := Option.some.inj H
      go_enter Tryz.func82, Tryz.ntmps82
      go_wp2
      go_ret
      exact ⟨by first | rfl | (simp [errW_none, errW_some] <;> rfl) | (simp only [← hji5, ← hji6]; first | rfl | (simp [errW_none, errW_some] <;> rfl)) | (simp [*, errW_none, errW_some] <;> rfl), by repeat (first | (with_reducible first | exact HB.out | apply below_alloc | apply pw_below_drewN | apply below_drew1) | exact HB.out)⟩
    · rw [if_neg c8] at H
      have c8b0 : (((ji6) / 20) == 1) = false := beq_eq_false_iff_ne.mpr c8
      have c8b1 : (((ji6) / 20) != 1) = true := bne_iff_ne.mpr c8
      by_cases c9 : ((ji6) / 20) = 2
      · rw [if_pos c9] at H
        have c9b0 : (((ji6) / 20) == 2) = true := beq_iff_eq.mpr c9
        have c9b1 : (((ji6) / 20) != 2) = false := bne_eq_false_iff_eq.mpr c9
        clear c9
        obtain rfl := Option.some.inj H
        go_enter Tryz.func82, Tryz.ntmps82
        go_wp2
        go_ret
        exact ⟨by first | rfl | (simp [errW_none, errW_some] <;> rfl) | (simp only [← hji5, ← hji6]; first | rfl | (simp [errW_none, errW_some] <;> rfl)) | (simp [*, errW_none, errW_some] <;> rfl), by repeat (first | (with_reducible first | exact HB.out | apply below_alloc | apply pw_below_drewN | apply below_drew1) | exact HB.out)⟩
      · rw [if_neg c9] at H
        have c9b0 : (((ji6) / 20) == 2) = false := beq_eq_false_iff_ne.mpr c9
        have c9b1 : (((ji6) / 20) != 2) = true := bne_iff_ne.mpr c9
        obtain rfl := Option.some.inj H
        go_enter Tryz.func82, Tryz.ntmps82
        go_wp2
        go_ret
        exact ⟨by first | rfl | (simp [errW_none, errW_some] <;> rfl) | (simp only [← hji5, ← hji6]; first | rfl | (simp [errW_none, errW_some] <;> rfl)) | (simp [*, errW_none, errW_some] <;> rfl), by repeat (first | (with_reducible first | exact HB.out | apply below_alloc | apply pw_below_drewN | apply below_drew1) | exact HB.out)⟩
mutual
def detect_Vectors.l0 : Nat → List (S63) → Int → Option ((List (S63)))
  | 0, _, _ => none
  | k + 1, x1, x2 => if x2 ≤ 51 then (if x1.length < 5864062014805 then (detect_Vectors.l0 k (x1 ++ [(⟨1, x2, 0⟩ : S63)]) (wrap64 (x2 + 1))) else (none)) else (detect_Vectors.l1 k x1 45)
def detect_Vectors.l1 : Nat → List (S63) → Int → Option ((List (S63)))
  | 0, _, _ => none
  | k + 1, x1, x3 => if x3 ≤ 56 then (if x1.length < 5864062014805 then (detect_Vectors.l1 k (x1 ++ [(⟨2, x3, 0⟩ : S63)]) (wrap64 (x3 + 1))) else (none)) else (some x1)
end
def detect_Vectors.f (k : Nat)  : Option ((List (S63))) := detect_Vectors.l0 k ([] : List (S63)) 43
theorem detect_Vectors.mono_l : ∀ k, (∀ y0 y1, LeO (detect_Vectors.l0 k y0 y1) (detect_Vectors.l0 (k + 1) y0 y1)) ∧ (∀ y0 y1, LeO (detect_Vectors.l1 k y0 y1) (detect_Vectors.l1 (k + 1) y0 y1))
  | 0 => ⟨fun _ _ r h => by simp [detect_Vectors.l0] at h, fun _ _ r h => by simp [detect_Vectors.l1] at h⟩
  | k + 1 => by
    obtain ⟨ih0, ih1⟩ := detect_Vectors.mono_l k
    refine ⟨?_, ?_⟩
    · intro y0 y1
      unfold detect_Vectors.l0
      repeat' first
      | (with_reducible exact ih0 _ _)
      | (with_reducible exact ih1 _ _)
      | (with_reducible exact LeO.refl _)
      | (with_reducible exact LeO.none _)
      | (with_reducible refine LeO.ite ?_ ?_)
      | (with_reducible refine LeO.bind ?_ (fun _ => ?_))
      | exact ih0 _ _
      | exact ih1 _ _
      | exact LeO.none _
      | refine LeO.ite ?_ ?_
      | refine LeO.bind ?_ (fun _ => ?_)
    · intro y0 y1
      unfold detect_Vectors.l1
      repeat' first
      | (with_reducible exact ih0 _ _)
      | (with_reducible exact ih1 _ _)
      | (with_reducible exact LeO.refl _)
      | (with_reducible exact LeO.none _)
      | (with_reducible refine LeO.ite ?_ ?_)
      | (with_reducible refine LeO.bind ?_ (fun _ => ?_))
      | exact ih0 _ _
      | exact ih1 _ _
      | exact LeO.none _
      | refine LeO.ite ?_ ?_
      | refine LeO.bind ?_ (fun _ => ?_)
theorem detect_Vectors.mono : ∀ k, LeO (detect_Vectors.f k ) (detect_Vectors.f (k + 1) ) := by
  intro  k
  obtain ⟨ih0, ih1⟩ := detect_Vectors.mono_l k
  unfold detect_Vectors.f
  repeat' first
      | (with_reducible exact ih0 _ _)
      | (with_reducible exact ih1 _ _)
      | (with_reducible exact LeO.refl _)
      | (with_reducible exact LeO.none _)
      | (with_reducible refine LeO.ite ?_ ?_)
      | (with_reducible refine LeO.bind ?_ (fun _ => ?_))
      | exact ih0 _ _
      | exact ih1 _ _
      | exact LeO.none _
      | refine LeO.ite ?_ ?_
      | refine LeO.bind ?_ (fun _ => ?_)
set_option maxHeartbeats 8000000 in
set_option maxRecDepth 100000 in
theorem detect_Vectors.calls (k : Nat)  (r : List (S63)) (w : World) (h : detect_Vectors.f k  = some r) :
    Calls Tryz.prog 41 #[] w fun e w' => ∃ v0_ : Value, e = .returned (v0_) ∧ Kd.R k63 63 w' w.heap.size (fun _ => True) v0_ r ∧ Below w.heap.size w w' := by
  have hu63 := Tryz.underlying63
  have HB := Aside0.mk (Below.refl w.heap.size w)
  have H : (detect_Vectors.l0 k ([] : List (S63)) 43) = some r := h
  clear h
  have H' := Aside0.mk H
  clear H
  go_enter Tryz.func41, Tryz.ntmps41
  go_wp2
  go_loopg [1, 2] k (fun kq v1 v2 w' => ∃ (x1_1 : List (S63)) (x2_1 : Int), v2 = .int .i64 x2_1 ∧ Aside0 (detect_Vectors.l0 kq x1_1 x2_1 = some r) ∧ Aside0 (kq ≤ k) ∧ Aside0 (Kd.R k63 63 w' w.heap.size (fun _ => True) v1 x1_1) ∧ Aside0 (Below w.heap.size w w'))
  case atStart => exact ⟨(([] : List (S63))), (43), (by first | rfl | (simp; done) | (simp [*]; done)), H', ⟨Nat.le_refl _⟩, ⟨by first | exact Kd.R_nil _ _ _ _ _ | exact Kd.N_nil _ _ _ _ _ | exact Kd.V_nil _ _ _ _ _ | exact Kd.Q_nil _ _ _ _ _ | exact Kd.S_nil _ _ _ _ _⟩, ⟨by repeat (first | (with_reducible first | exact HB.out | apply below_alloc | apply pw_below_drewN | apply below_drew1) | exact HB.out)⟩⟩
  case round =>
    clear H'
    obtain ⟨x1_1, x2_1, rfl, HA, HK1, HO_1, HB⟩ := hrel
    cases gk with
    | zero => exact absurd HA.out (by simp [detect_Vectors.l0])
    | succ k1 =>
      have H := HA.out
      clear HA
      simp only [detect_Vectors.l0] at H
      by_cases c1 : x2_1 ≤ 51
      · rw [if_pos c1] at H
        have c1b0 : decide (x2_1 ≤ 51) = true := decide_eq_true c1
        clear c1
        by_cases c2 : x1_1.length < 5864062014805
        · rw [if_pos c2] at H
          have LMc2 := Aside0.mk c2
          clear c2
          obtain ⟨y119, hy119⟩ : ∃ y_ : List (S63), y_ = (x1_1 ++ [(⟨1, x2_1, 0⟩ : S63)]) := ⟨_, rfl⟩
          replace H : (detect_Vectors.l0 k1 y119 (wrap64 (x2_1 + 1))) = some r := by first | (rw [hy119]; with_reducible exact H) | (have H2_ := (Option.bind_some _ _).symm.trans H; rw [hy119]; with_reducible exact H2_) | (have H2_ := (Option.bind_some _ _).symm.trans H; with_reducible exact H2_) | with_reducible exact H | (rw [hy119]; exact H) | exact H
          have Ny119 := Aside0.mk hy119
          clear hy119
          have H' := Aside0.mk H
          clear H
          go_wp2_with (first | ((with_reducible refine gate_builtin (b := .append) (xs := #[.tmp 8, .tmp 11]) rfl ?_); at_builtin; refine Kd.R_append k63 (w0 := w) w.heap.size rfl (.tmp 8) (.tmp 11) 60 63 (.agg #[(.int .i64 0), (.int .i64 0), (.int .i64 0)]) 24 rfl Tryz.underlying60 info63 rfl (by decide) (by omega) u1 x1_1 (⟨1, x2_1, 0⟩ : S63) [.int .i64 1, .int .i64 x2_1, .int .i64 0] (fun _ => True) (fun _ => False) rfl rfl ?aP (fun _ hk => hk.elim) ?aF ?aO ?aB ?aS ?aL ?_; (case aP => exact k63_mkM _ _ _ (⟨1, x2_1, 0⟩ : S63)); (case aB => exact (by repeat (first | (with_reducible first | exact HB.out | apply below_alloc | apply pw_below_drewN | apply below_drew1) | exact HB.out))); (case aF => exact (fun _ _ => trivial)); (case aO => exact (by (with_reducible repeat (first | apply Kd.R_alloc | apply Kd.R_drewN | apply Kd.R_drew)); exact HO_1.out)); (case aS => exact (below_size (by repeat (first | (with_reducible first | exact HB.out | apply below_alloc | apply pw_below_drewN | apply below_drew1) | exact HB.out)))); (case aL => have := LMc2.out; omega); intro v120 w3 ho hb hg hat; rw [← Ny119.out] at ho; have n0_ := Aside0.mk (hb); have n1_ := Aside0.mk (ho); clear HB; clear HO_1; have HB := n0_; have HO121 := n1_; clear n0_ n1_; clear ho hb hg hat))
          go_roundg k1
          case measure => have := HK1.out; omega
          case rel => exact ⟨(y119), (wrap64 (x2_1 + 1)), (by first | rfl | (simp; done) | (simp [*]; done)), H', ⟨by have := HK1.out; omega⟩, ⟨by (with_reducible repeat (first | apply Kd.R_alloc | apply Kd.R_drewN | apply Kd.R_drew)); exact HO121.out⟩, ⟨by repeat (first | (with_reducible first | exact HB.out | apply below_alloc | apply pw_below_drewN | apply below_drew1) | exact HB.out)⟩⟩
        · rw [if_neg c2] at H
          exact absurd H (by simp)
      · rw [if_neg c1] at H
        have c1b0 : decide (x2_1 ≤ 51) = false := decide_eq_false c1
        clear c1
        have H' := Aside0.mk H
        clear H
        go_wp2
        go_loopg [1, 3] k1 (fun kq v1 v3 w' => ∃ (x1_2 : List (S63)) (x3_2 : Int), v3 = .int .i64 x3_2 ∧ Aside0 (detect_Vectors.l1 kq x1_2 x3_2 = some r) ∧ Aside0 (kq ≤ k1) ∧ Aside0 (Kd.R k63 63 w' w.heap.size (fun _ => True) v1 x1_2) ∧ Aside0 (Below w.heap.size w w'))
        case atStart => exact ⟨(x1_1), (45), (by first | rfl | (simp; done) | (simp [*]; done)), H', ⟨Nat.le_refl _⟩, ⟨by (with_reducible repeat (first | apply Kd.R_alloc | apply Kd.R_drewN | apply Kd.R_drew)); exact HO_1.out⟩, ⟨by repeat (first | (with_reducible first | exact HB.out | apply below_alloc | apply pw_below_drewN | apply below_drew1) | exact HB.out)⟩⟩
        case round =>
          clear H'
          try clear c1
          try clear c1b0
          try clear c2
          try clear p2
          obtain ⟨x1_2, x3_2, rfl, HA, HK2, HO_1, HB⟩ := hrel
          cases gk with
          | zero => exact absurd HA.out (by simp [detect_Vectors.l1])
          | succ k2 =>
            have H := HA.out
            clear HA
            simp only [detect_Vectors.l1] at H
            by_cases c4 : x3_2 ≤ 56
            · rw [if_pos c4] at H
              have c4b0 : decide (x3_2 ≤ 56) = true := decide_eq_true c4
              clear c4
              by_cases c5 : x1_2.length < 5864062014805
              · rw [if_pos c5] at H
                have LMc5 := Aside0.mk c5
                clear c5
                obtain ⟨y122, hy122⟩ : ∃ y_ : List (S63), y_ = (x1_2 ++ [(⟨2, x3_2, 0⟩ : S63)]) := ⟨_, rfl⟩
                replace H : (detect_Vectors.l1 k2 y122 (wrap64 (x3_2 + 1))) = some r := by first | (rw [hy122]; with_reducible exact H) | (have H2_ := (Option.bind_some _ _).symm.trans H; rw [hy122]; with_reducible exact H2_) | (have H2_ := (Option.bind_some _ _).symm.trans H; with_reducible exact H2_) | with_reducible exact H | (rw [hy122]; exact H) | exact H
                have Ny122 := Aside0.mk hy122
                clear hy122
                have H' := Aside0.mk H
                clear H
                go_wp2_with (first | ((with_reducible refine gate_builtin (b := .append) (xs := #[.tmp 17, .tmp 20]) rfl ?_); at_builtin; refine Kd.R_append k63 (w0 := w) w.heap.size rfl (.tmp 17) (.tmp 20) 60 63 (.agg #[(.int .i64 0), (.int .i64 0), (.int .i64 0)]) 24 rfl Tryz.underlying60 info63 rfl (by decide) (by omega) u1 x1_2 (⟨2, x3_2, 0⟩ : S63) [.int .i64 2, .int .i64 x3_2, .int .i64 0] (fun _ => True) (fun _ => False) rfl rfl ?aP (fun _ hk => hk.elim) ?aF ?aO ?aB ?aS ?aL ?_; (case aP => exact k63_mkM _ _ _ (⟨2, x3_2, 0⟩ : S63)); (case aB => exact (by repeat (first | (with_reducible first | exact HB.out | apply below_alloc | apply pw_below_drewN | apply below_drew1) | exact HB.out))); (case aF => exact (fun _ _ => trivial)); (case aO => exact (by (with_reducible repeat (first | apply Kd.R_alloc | apply Kd.R_drewN | apply Kd.R_drew)); exact HO_1.out)); (case aS => exact (below_size (by repeat (first | (with_reducible first | exact HB.out | apply below_alloc | apply pw_below_drewN | apply below_drew1) | exact HB.out)))); (case aL => have := LMc5.out; omega); intro v123 w6 ho hb hg hat; rw [← Ny122.out] at ho; have n0_ := Aside0.mk (hb); have n1_ := Aside0.mk (ho); clear HB; clear HO_1; have HB := n0_; have HO124 := n1_; clear n0_ n1_; clear ho hb hg hat))
                go_roundg k2
                case measure => have := HK1.out; have := HK2.out; omega
                case rel => exact ⟨(y122), (wrap64 (x3_2 + 1)), (by first | rfl | (simp; done) | (simp [*]; done)), H', ⟨by have := HK1.out; have := HK2.out; omega⟩, ⟨by (with_reducible repeat (first | apply Kd.R_alloc | apply Kd.R_drewN | apply Kd.R_drew)); exact HO124.out⟩, ⟨by repeat (first | (with_reducible first | exact HB.out | apply below_alloc | apply pw_below_drewN | apply below_drew1) | exact HB.out)⟩⟩
              · rw [if_neg c5] at H
                exact absurd H (by simp)
            · rw [if_neg c4] at H
              have c4b0 : decide (x3_2 ≤ 56) = false := decide_eq_false c4
              clear c4
              obtain rfl := Option.some.inj H
              go_wp2
              go_ret
              exact ⟨_, by first | rfl | (simp [errW_none, errW_some] <;> rfl) | (simp [*, errW_none, errW_some] <;> rfl), by (with_reducible repeat (first | apply Kd.R_alloc | apply Kd.R_drewN | apply Kd.R_drew)); exact HO_1.out, by repeat (first | (with_reducible first | exact HB.out | apply below_alloc | apply pw_below_drewN | apply below_drew1) | exact HB.out)⟩
def diptychref02_Rot.f (a0 : Int) (a1 : Int) : Option (Int) := if 0 ≤ a1 then (if 0 ≤ (IntKind.u64.wrap (32 - a1)) then (some (Go.bits .or .u32 (shl .u32 a0 a1) (shr .u32 a0 (IntKind.u64.wrap (32 - a1))))) else (none)) else (none)
set_option maxHeartbeats 8000000 in
set_option maxRecDepth 100000 in
theorem diptychref02_Rot.calls (a0 : Int) (a1 : Int) (r : Int) (w : World) (h : diptychref02_Rot.f a0 a1 = some r) :
    Calls Tryz.prog 84 #[.int .u32 a0, .int .u64 a1] w fun e w' => e = .returned (.int .u32 r) ∧ Drawn0 w w' := by
  have H : (if 0 ≤ a1 then (if 0 ≤ (IntKind.u64.wrap (32 - a1)) then (some (Go.bits .or .u32 (shl .u32 a0 a1) (shr .u32 a0 (IntKind.u64.wrap (32 - a1))))) else (none)) else (none)) = some r := h
  clear h
  by_cases c3 : 0 ≤ a1
  · rw [if_pos c3] at H
    have c3b0 := eq_true c3
    have c3b1 : decide (0 ≤ a1) = true := decide_eq_true c3
    clear c3
    obtain ⟨ji4, hji4⟩ : ∃ j_ : Int, (shl .u32 a0 a1) = j_ := ⟨_, rfl⟩
    replace H : (if 0 ≤ (IntKind.u64.wrap (32 - a1)) then (some (Go.bits .or .u32 (ji4) (shr .u32 a0 (IntKind.u64.wrap (32 - a1))))) else (none)) = some r := by first | (rw [hji4] at H; exact H) | (simp only [hji4] at H ⊢; exact H)
    have hji4_ : (IntKind.u32.wrap (a0 * 2 ^ min a1.toNat 32)) = ji4 := hji4
    have hji4z : a1 ≤ 32 → (IntKind.u32.wrap (a0 * 2 ^ a1.toNat)) = ji4 := shl_small hji4
    obtain ⟨ji5, hji5⟩ : ∃ j_ : Int, (IntKind.u64.wrap (32 - a1)) = j_ := ⟨_, rfl⟩
    replace H : (if 0 ≤ (ji5) then (some (Go.bits .or .u32 (ji4) (shr .u32 a0 (ji5)))) else (none)) = some r := by first | (rw [hji5] at H; exact H) | (simp only [hji5] at H ⊢; exact H)
    by_cases c6 : 0 ≤ (ji5)
    · rw [if_pos c6] at H
      have c6b0 := eq_true c6
      have c6b1 : decide (0 ≤ (ji5)) = true := decide_eq_true c6
      clear c6
      obtain ⟨ji7, hji7⟩ : ∃ j_ : Int, (shr .u32 a0 (ji5)) = j_ := ⟨_, rfl⟩
      replace H : (some (Go.bits .or .u32 (ji4) (ji7))) = some r := by first | (rw [hji7] at H; exact H) | (simp only [hji7] at H ⊢; exact H)
      have hji7_ : (a0 / 2 ^ min (ji5).toNat 32) = ji7 := hji7
      have hji7z : (ji5) ≤ 32 → (a0 / 2 ^ (ji5).toNat) = ji7 := shr_small hji7
      obtain rfl := Option.some.inj H
      go_enter Tryz.func84, Tryz.ntmps84
      go_wp2
      go_ret
      exact ⟨by first | rfl | (simp; done) | (simp only [← hji4, ← hji5, ← hji7] <;> (first | rfl | simp)) | (simp [*]; done), by repeat (first | exact Drawn0.refl _ | apply Drawn0.step)⟩
    · rw [if_neg c6] at H
      exact absurd H (by simp)
  · rw [if_neg c3] at H
    exact absurd H (by simp)
def diptychref02_Mix.f (a0 : Int) (a1 : Int) (a2 : Int) (a3 : Int) : Option (Int) := if a0 < 20 then (some (((Go.bits .or .u32 (Go.bits .and .u32 a1 a2) (Go.bits .and .u32 (Go.bits .xor .u32 IntKind.u32.max a1) a3)) + 1518500249) % 4294967296)) else (if a0 < 40 then (some (((Go.bits .xor .u32 (Go.bits .xor .u32 a1 a2) a3) + 1859775393) % 4294967296)) else (if a0 < 60 then (some (((Go.bits .or .u32 (Go.bits .or .u32 (Go.bits .and .u32 a1 a2) (Go.bits .and .u32 a1 a3)) (Go.bits .and .u32 a2 a3)) + 2400959708) % 4294967296)) else (some (((Go.bits .xor .u32 (Go.bits .xor .u32 a1 a2) a3) + 3395469782) % 4294967296))))
set_option maxHeartbeats 8000000 in
set_option maxRecDepth 100000 in
theorem diptychref02_Mix.calls (a0 : Int) (a1 : Int) (a2 : Int) (a3 : Int) (r : Int) (w : World) (h : diptychref02_Mix.f a0 a1 a2 a3 = some r) :
    Calls Tryz.prog 85 #[.int .i64 a0, .int .u32 a1, .int .u32 a2, .int .u32 a3] w fun e w' => e = .returned (.int .u32 r) ∧ Drawn0 w w' := by
  have H : (if a0 < 20 then (some (((Go.bits .or .u32 (Go.bits .and .u32 a1 a2) (Go.bits .and .u32 (Go.bits .xor .u32 IntKind.u32.max a1) a3)) + 1518500249) % 4294967296)) else (if a0 < 40 then (some (((Go.bits .xor .u32 (Go.bits .xor .u32 a1 a2) a3) + 1859775393) % 4294967296)) else (if a0 < 60 then (some (((Go.bits .or .u32 (Go.bits .or .u32 (Go.bits .and .u32 a1 a2) (Go.bits .and .u32 a1 a3)) (Go.bits .and .u32 a2 a3)) + 2400959708) % 4294967296)) else (some (((Go.bits .xor .u32 (Go.bits .xor .u32 a1 a2) a3) + 3395469782) % 4294967296))))) = some r := h
  clear h
  by_cases c5 : a0 < 20
  · rw [if_pos c5] at H
    have c5b0 : decide (a0 < 20) = true := decide_eq_true c5
    clear c5
    obtain rfl := Option.some.inj H
    go_enter Tryz.func85, Tryz.ntmps85
    go_wp2
    go_ret
    exact ⟨by first | rfl | (simp; done) | (simp [*]; done), by repeat (first | exact Drawn0.refl _ | apply Drawn0.step)⟩
  · rw [if_neg c5] at H
    have c5b0 : decide (a0 < 20) = false := decide_eq_false c5
    clear c5
    by_cases c6 : a0 < 40
    · rw [if_pos c6] at H
      have c6b0 : decide (a0 < 40) = true := decide_eq_true c6
      clear c6
      obtain rfl := Option.some.inj H
      go_enter Tryz.func85, Tryz.ntmps85
      go_wp2
      go_ret
      exact ⟨by first | rfl | (simp; done) | (simp [*]; done), by repeat (first | exact Drawn0.refl _ | apply Drawn0.step)⟩
    · rw [if_neg c6] at H
      have c6b0 : decide (a0 < 40) = false := decide_eq_false c6
      clear c6
      by_cases c7 : a0 < 60
      · rw [if_pos c7] at H
        have c7b0 : decide (a0 < 60) = true := decide_eq_true c7
        clear c7
        obtain rfl := Option.some.inj H
        go_enter Tryz.func85, Tryz.ntmps85
        go_wp2
        go_ret
        exact ⟨by first | rfl | (simp; done) | (simp [*]; done), by repeat (first | exact Drawn0.refl _ | apply Drawn0.step)⟩
      · rw [if_neg c7] at H
        have c7b0 : decide (a0 < 60) = false := decide_eq_false c7
        clear c7
        obtain rfl := Option.some.inj H
        go_enter Tryz.func85, Tryz.ntmps85
        go_wp2
        go_ret
        exact ⟨by first | rfl | (simp; done) | (simp [*]; done), by repeat (first | exact Drawn0.refl _ | apply Drawn0.step)⟩
def diptychref05_Vectors.f  : Option ((List (S84))) := some (([(⟨1, 43, 0⟩ : S84), (⟨1, 44, 0⟩ : S84), (⟨1, 45, 0⟩ : S84), (⟨1, 46, 0⟩ : S84), (⟨1, 47, 0⟩ : S84), (⟨1, 48, 0⟩ : S84), (⟨1, 49, 0⟩ : S84), (⟨1, 50, 0⟩ : S84), (⟨1, 51, 0⟩ : S84), (⟨2, 45, 0⟩ : S84), (⟨2, 46, 0⟩ : S84), (⟨2, 47, 0⟩ : S84), (⟨2, 48, 0⟩ : S84), (⟨2, 49, 0⟩ : S84), (⟨2, 50, 0⟩ : S84), (⟨2, 51, 0⟩ : S84), (⟨2, 52, 0⟩ : S84), (⟨2, 53, 0⟩ : S84), (⟨2, 54, 0⟩ : S84), (⟨2, 55, 0⟩ : S84), (⟨2, 56, 0⟩ : S84)] : List (S84)))
set_option maxHeartbeats 8000000 in
set_option maxRecDepth 100000 in
theorem diptychref05_Vectors.calls  (r : List (S84)) (w : World) (h : diptychref05_Vectors.f  = some r) :
    Calls Tryz.prog 52 #[] w fun e w' => ∃ v0_ : Value, e = .returned (v0_) ∧ Kd.R k84 84 w' w.heap.size (fun _ => True) v0_ r ∧ Below w.heap.size w w' := by
  have hu84 := Tryz.underlying84
  have HB := Aside0.mk (Below.refl w.heap.size w)
  have H : (some (([(⟨1, 43, 0⟩ : S84), (⟨1, 44, 0⟩ : S84), (⟨1, 45, 0⟩ : S84), (⟨1, 46, 0⟩ : S84), (⟨1, 47, 0⟩ : S84), (⟨1, 48, 0⟩ : S84), (⟨1, 49, 0⟩ : S84), (⟨1, 50, 0⟩ : S84), (⟨1, 51, 0⟩ : S84), (⟨2, 45, 0⟩ : S84), (⟨2, 46, 0⟩ : S84), (⟨2, 47, 0⟩ : S84), (⟨2, 48, 0⟩ : S84), (⟨2, 49, 0⟩ : S84), (⟨2, 50, 0⟩ : S84), (⟨2, 51, 0⟩ : S84), (⟨2, 52, 0⟩ : S84), (⟨2, 53, 0⟩ : S84), (⟨2, 54, 0⟩ : S84), (⟨2, 55, 0⟩ : S84), (⟨2, 56, 0⟩ : S84)] : List (S84)))) = some r := h
  clear h
  obtain ⟨y125, hy125⟩ : ∃ y_ : List (S84), y_ = (([(⟨1, 43, 0⟩ : S84), (⟨1, 44, 0⟩ : S84), (⟨1, 45, 0⟩ : S84), (⟨1, 46, 0⟩ : S84), (⟨1, 47, 0⟩ : S84), (⟨1, 48, 0⟩ : S84), (⟨1, 49, 0⟩ : S84), (⟨1, 50, 0⟩ : S84), (⟨1, 51, 0⟩ : S84), (⟨2, 45, 0⟩ : S84), (⟨2, 46, 0⟩ : S84), (⟨2, 47, 0⟩ : S84), (⟨2, 48, 0⟩ : S84), (⟨2, 49, 0⟩ : S84), (⟨2, 50, 0⟩ : S84), (⟨2, 51, 0⟩ : S84), (⟨2, 52, 0⟩ : S84), (⟨2, 53, 0⟩ : S84), (⟨2, 54, 0⟩ : S84), (⟨2, 55, 0⟩ : S84), (⟨2, 56, 0⟩ : S84)] : List (S84))) := ⟨_, rfl⟩
  replace H : (some y125) = some r := by first | (rw [hy125]; with_reducible exact H) | (have H2_ := (Option.bind_some _ _).symm.trans H; rw [hy125]; with_reducible exact H2_) | (have H2_ := (Option.bind_some _ _).symm.trans H; with_reducible exact H2_) | with_reducible exact H | (rw [hy125]; exact H) | exact H
  have Ny125 := Aside0.mk hy125
  clear hy125
  obtain rfl := Option.some.inj H
  go_enter Tryz.func52, Tryz.ntmps52
  go_wp2_with (first | ((with_reducible refine gate_dst (N := 22) rfl ?_); refine Kd.R_lit k84 _ 84 ?hg (N := 22) ?hd (xs := ([(⟨1, 43, 0⟩ : S84), (⟨1, 44, 0⟩ : S84), (⟨1, 45, 0⟩ : S84), (⟨1, 46, 0⟩ : S84), (⟨1, 47, 0⟩ : S84), (⟨1, 48, 0⟩ : S84), (⟨1, 49, 0⟩ : S84), (⟨1, 50, 0⟩ : S84), (⟨1, 51, 0⟩ : S84), (⟨2, 45, 0⟩ : S84), (⟨2, 46, 0⟩ : S84), (⟨2, 47, 0⟩ : S84), (⟨2, 48, 0⟩ : S84), (⟨2, 49, 0⟩ : S84), (⟨2, 50, 0⟩ : S84), (⟨2, 51, 0⟩ : S84), (⟨2, 52, 0⟩ : S84), (⟨2, 53, 0⟩ : S84), (⟨2, 54, 0⟩ : S84), (⟨2, 55, 0⟩ : S84), (⟨2, 56, 0⟩ : S84)] : List (S84))) (inner := [.int .i64 1, .int .i64 43, .int .i64 0, .int .i64 1, .int .i64 44, .int .i64 0, .int .i64 1, .int .i64 45, .int .i64 0, .int .i64 1, .int .i64 46, .int .i64 0, .int .i64 1, .int .i64 47, .int .i64 0, .int .i64 1, .int .i64 48, .int .i64 0, .int .i64 1, .int .i64 49, .int .i64 0, .int .i64 1, .int .i64 50, .int .i64 0, .int .i64 1, .int .i64 51, .int .i64 0, .int .i64 2, .int .i64 45, .int .i64 0, .int .i64 2, .int .i64 46, .int .i64 0, .int .i64 2, .int .i64 47, .int .i64 0, .int .i64 2, .int .i64 48, .int .i64 0, .int .i64 2, .int .i64 49, .int .i64 0, .int .i64 2, .int .i64 50, .int .i64 0, .int .i64 2, .int .i64 51, .int .i64 0, .int .i64 2, .int .i64 52, .int .i64 0, .int .i64 2, .int .i64 53, .int .i64 0, .int .i64 2, .int .i64 54, .int .i64 0, .int .i64 2, .int .i64 55, .int .i64 0, .int .i64 2, .int .i64 56, .int .i64 0]) (ok := fun _ => True) (okp := fun _ => True) ?hr ?hp (fun _ hk => hk) trivial (Below.refl _ _) (Nat.le_refl _) (by simp) ?_; (case hd => rfl); (case hg => rfl); (case hr => first | (go_simp; done) | (go_simp; rfl)); (case hp => exact (Reps.c3 (show Kd.M k84 _ _ _ (⟨1, 43, 0⟩ : S84) [.int .i64 1, .int .i64 43, .int .i64 0] from (k84_mkM _ _ _ (⟨1, 43, 0⟩ : S84) )) (Reps.c3 (show Kd.M k84 _ _ _ (⟨1, 44, 0⟩ : S84) [.int .i64 1, .int .i64 44, .int .i64 0] from (k84_mkM _ _ _ (⟨1, 44, 0⟩ : S84) )) (Reps.c3 (show Kd.M k84 _ _ _ (⟨1, 45, 0⟩ : S84) [.int .i64 1, .int .i64 45, .int .i64 0] from (k84_mkM _ _ _ (⟨1, 45, 0⟩ : S84) )) (Reps.c3 (show Kd.M k84 _ _ _ (⟨1, 46, 0⟩ : S84) [.int .i64 1, .int .i64 46, .int .i64 0] from (k84_mkM _ _ _ (⟨1, 46, 0⟩ : S84) )) (Reps.c3 (show Kd.M k84 _ _ _ (⟨1, 47, 0⟩ : S84) [.int .i64 1, .int .i64 47, .int .i64 0] from (k84_mkM _ _ _ (⟨1, 47, 0⟩ : S84) )) (Reps.c3 (show Kd.M k84 _ _ _ (⟨1, 48, 0⟩ : S84) [.int .i64 1, .int .i64 48, .int .i64 0] from (k84_mkM _ _ _ (⟨1, 48, 0⟩ : S84) )) (Reps.c3 (show Kd.M k84 _ _ _ (⟨1, 49, 0⟩ : S84) [.int .i64 1, .int .i64 49, .int .i64 0] from (k84_mkM _ _ _ (⟨1, 49, 0⟩ : S84) )) (Reps.c3 (show Kd.M k84 _ _ _ (⟨1, 50, 0⟩ : S84) [.int .i64 1, .int .i64 50, .int .i64 0] from (k84_mkM _ _ _ (⟨1, 50, 0⟩ : S84) )) (Reps.c3 (show Kd.M k84 _ _ _ (⟨1, 51, 0⟩ : S84) [.int .i64 1, .int .i64 51, .int .i64 0] from (k84_mkM _ _ _ (⟨1, 51, 0⟩ : S84) )) (Reps.c3 (show Kd.M k84 _ _ _ (⟨2, 45, 0⟩ : S84) [.int .i64 2, .int .i64 45, .int .i64 0] from (k84_mkM _ _ _ (⟨2, 45, 0⟩ : S84) )) (Reps.c3 (show Kd.M k84 _ _ _ (⟨2, 46, 0⟩ : S84) [.int .i64 2, .int .i64 46, .int .i64 0] from (k84_mkM _ _ _ (⟨2, 46, 0⟩ : S84) )) (Reps.c3 (show Kd.M k84 _ _ _ (⟨2, 47, 0⟩ : S84) [.int .i64 2, .int .i64 47, .int .i64 0] from (k84_mkM _ _ _ (⟨2, 47, 0⟩ : S84) )) (Reps.c3 (show Kd.M k84 _ _ _ (⟨2, 48, 0⟩ : S84) [.int .i64 2, .int .i64 48, .int .i64 0] from (k84_mkM _ _ _ (⟨2, 48, 0⟩ : S84) )) (Reps.c3 (show Kd.M k84 _ _ _ (⟨2, 49, 0⟩ : S84) [.int .i64 2, .int .i64 49, .int .i64 0] from (k84_mkM _ _ _ (⟨2, 49, 0⟩ : S84) )) (Reps.c3 (show Kd.M k84 _ _ _ (⟨2, 50, 0⟩ : S84) [.int .i64 2, .int .i64 50, .int .i64 0] from (k84_mkM _ _ _ (⟨2, 50, 0⟩ : S84) )) (Reps.c3 (show Kd.M k84 _ _ _ (⟨2, 51, 0⟩ : S84) [.int .i64 2, .int .i64 51, .int .i64 0] from (k84_mkM _ _ _ (⟨2, 51, 0⟩ : S84) )) (Reps.c3 (show Kd.M k84 _ _ _ (⟨2, 52, 0⟩ : S84) [.int .i64 2, .int .i64 52, .int .i64 0] from (k84_mkM _ _ _ (⟨2, 52, 0⟩ : S84) )) (Reps.c3 (show Kd.M k84 _ _ _ (⟨2, 53, 0⟩ : S84) [.int .i64 2, .int .i64 53, .int .i64 0] from (k84_mkM _ _ _ (⟨2, 53, 0⟩ : S84) )) (Reps.c3 (show Kd.M k84 _ _ _ (⟨2, 54, 0⟩ : S84) [.int .i64 2, .int .i64 54, .int .i64 0] from (k84_mkM _ _ _ (⟨2, 54, 0⟩ : S84) )) (Reps.c3 (show Kd.M k84 _ _ _ (⟨2, 55, 0⟩ : S84) [.int .i64 2, .int .i64 55, .int .i64 0] from (k84_mkM _ _ _ (⟨2, 55, 0⟩ : S84) )) (Reps.c3 (show Kd.M k84 _ _ _ (⟨2, 56, 0⟩ : S84) [.int .i64 2, .int .i64 56, .int .i64 0] from (k84_mkM _ _ _ (⟨2, 56, 0⟩ : S84) )) (Reps.none _ _))))))))))))))))))))))); intro v126 w1 ho2 hb hg_ hnew_; clear hg_ hnew_; (first | rw [← Ny125.out] at ho2 | (simp only [Int.reduceToNat] at ho2; rw [← Ny125.out] at ho2)); have n0_ := Aside0.mk (Kd.R_lower ho2 (below_size (by repeat (first | (with_reducible first | exact HB.out | apply below_alloc | apply pw_below_drewN | apply below_drew1) | exact HB.out)))); have n1_ := Aside0.mk (below_step (by repeat (first | (with_reducible first | exact HB.out | apply below_alloc | apply pw_below_drewN | apply below_drew1) | exact HB.out)) hb); clear HB; have HO127 := n0_; have HB := n1_; clear n0_ n1_; clear hb ho2))
  go_ret
  exact ⟨_, by first | rfl | (simp [errW_none, errW_some] <;> rfl) | (simp [*, errW_none, errW_some] <;> rfl), by (with_reducible repeat (first | apply Kd.R_alloc | apply Kd.R_drewN | apply Kd.R_drew)); exact HO127.out, by repeat (first | (with_reducible first | exact HB.out | apply below_alloc | apply pw_below_drewN | apply below_drew1) | exact HB.out)⟩
def diptychref03_turn.f (a0 : Int) (a1 : Int) : Option (Int) := if 0 ≤ a1 then (if 0 ≤ (IntKind.u64.wrap (32 - a1)) then (some (Go.bits .or .u32 (shr .u32 a0 a1) (shl .u32 a0 (IntKind.u64.wrap (32 - a1))))) else (none)) else (none)
set_option maxHeartbeats 8000000 in
set_option maxRecDepth 100000 in
theorem diptychref03_turn.calls (a0 : Int) (a1 : Int) (r : Int) (w : World) (h : diptychref03_turn.f a0 a1 = some r) :
    Calls Tryz.prog 51 #[.int .u32 a0, .int .u64 a1] w fun e w' => e = .returned (.int .u32 r) ∧ Drawn0 w w' := by
  have H : (if 0 ≤ a1 then (if 0 ≤ (IntKind.u64.wrap (32 - a1)) then (some (Go.bits .or .u32 (shr .u32 a0 a1) (shl .u32 a0 (IntKind.u64.wrap (32 - a1))))) else (none)) else (none)) = some r := h
  clear h
  by_cases c3 : 0 ≤ a1
  · rw [if_pos c3] at H
    have c3b0 := eq_true c3
    have c3b1 : decide (0 ≤ a1) = true := decide_eq_true c3
    clear c3
    obtain ⟨ji4, hji4⟩ : ∃ j_ : Int, (shr .u32 a0 a1) = j_ := ⟨_, rfl⟩
    replace H : (if 0 ≤ (IntKind.u64.wrap (32 - a1)) then (some (Go.bits .or .u32 (ji4) (shl .u32 a0 (IntKind.u64.wrap (32 - a1))))) else (none)) = some r := by first | (rw [hji4] at H; exact H) | (simp only [hji4] at H ⊢; exact H)
    have hji4_ : (a0 / 2 ^ min a1.toNat 32) = ji4 := hji4
    have hji4z : a1 ≤ 32 → (a0 / 2 ^ a1.toNat) = ji4 := shr_small hji4
    obtain ⟨ji5, hji5⟩ : ∃ j_ : Int, (IntKind.u64.wrap (32 - a1)) = j_ := ⟨_, rfl⟩
    replace H : (if 0 ≤ (ji5) then (some (Go.bits .or .u32 (ji4) (shl .u32 a0 (ji5)))) else (none)) = some r := by first | (rw [hji5] at H; exact H) | (simp only [hji5] at H ⊢; exact H)
    by_cases c6 : 0 ≤ (ji5)
    · rw [if_pos c6] at H
      have c6b0 := eq_true c6
      have c6b1 : decide (0 ≤ (ji5)) = true := decide_eq_true c6
      clear c6
      obtain ⟨ji7, hji7⟩ : ∃ j_ : Int, (shl .u32 a0 (ji5)) = j_ := ⟨_, rfl⟩
      replace H : (some (Go.bits .or .u32 (ji4) (ji7))) = some r := by first | (rw [hji7] at H; exact H) | (simp only [hji7] at H ⊢; exact H)
      have hji7_ : (IntKind.u32.wrap (a0 * 2 ^ min (ji5).toNat 32)) = ji7 := hji7
      have hji7z : (ji5) ≤ 32 → (IntKind.u32.wrap (a0 * 2 ^ (ji5).toNat)) = ji7 := shl_small hji7
      obtain rfl := Option.some.inj H
      go_enter Tryz.func51, Tryz.ntmps51
      go_wp2
      go_ret
      exact ⟨by first | rfl | (simp; done) | (simp only [← hji4, ← hji5, ← hji7] <;> (first | rfl | simp)) | (simp [*]; done), by repeat (first | exact Drawn0.refl _ | apply Drawn0.step)⟩
    · rw [if_neg c6] at H
      exact absurd H (by simp)
  · rw [if_neg c3] at H
    exact absurd H (by simp)
def diptychref01_digit.f (a0 : Int) : Option (Int) := if a0 < 10 then (some ((48 + a0) % 256)) else (some ((87 + a0) % 256))
set_option maxHeartbeats 8000000 in
set_option maxRecDepth 100000 in
theorem diptychref01_digit.calls (a0 : Int) (r : Int) (w : World) (h : diptychref01_digit.f a0 = some r) :
    Calls Tryz.prog 37 #[.int .u8 a0] w fun e w' => e = .returned (.int .u8 r) ∧ Drawn0 w w' := by
  have H : (if a0 < 10 then (some ((48 + a0) % 256)) else (some ((87 + a0) % 256))) = some r := h
  clear h
  by_cases c2 : a0 < 10
  · rw [if_pos c2] at H
    have c2b0 : decide (a0 < 10) = true := decide_eq_true c2
    clear c2
    obtain rfl := Option.some.inj H
    go_enter Tryz.func37, Tryz.ntmps37
    go_wp2
    go_ret
    exact ⟨by first | rfl | (simp; done) | (simp [*]; done), by repeat (first | exact Drawn0.refl _ | apply Drawn0.step)⟩
  · rw [if_neg c2] at H
    have c2b0 : decide (a0 < 10) = false := decide_eq_false c2
    clear c2
    obtain rfl := Option.some.inj H
    go_enter Tryz.func37, Tryz.ntmps37
    go_wp2
    go_ret
    exact ⟨by first | rfl | (simp; done) | (simp [*]; done), by repeat (first | exact Drawn0.refl _ | apply Drawn0.step)⟩
end Go.Proofs.YtfjhnnpdaggnbaaGreatDoor.P
end
/-! Px2 -/
section
namespace Go.Proofs.YtfjhnnpdaggnbaaGreatDoor.P
open Go.RowKit Go.Proofs.YtfjhnnpdaggnbaaGreatDoorW.PrintWords Go.Proofs.YtfjhnnpdaggnbaaGreatDoorW.PrintLast Go.Proofs.YtfjhnnpdaggnbaaGreatDoorW.PrintMore
attribute [local go_sem] max2_int min2_int max_two min_two max_three min_three max_four min_four   -- for this text's walks alone
set_option linter.unusedVariables false
set_option linter.unusedSimpArgs false
def hexa_Digits.l0 : Nat → ByteArray → List Int → Int → Int → Option (ByteArray)
  | 0, _, _, _, _ => none
  | k + 1, x0, x3, x10, x11 => if x11 < x10 then (if 0 ≤ x11 then (if x11 < (x0.size : Int) then (if 0 ≤ ((bt x0 x11) / 16) then (if ((bt x0 x11) / 16) < 16 then (if 0 ≤ (Go.bits .and .u8 (bt x0 x11) 15) then (if (Go.bits .and .u8 (bt x0 x11) 15) < 16 then (if 0 ≤ (wrap64 (2 * x11)) then (if (wrap64 (2 * x11)) < (x3.length : Int) then (if 0 ≤ (wrap64 ((wrap64 (2 * x11)) + 1)) then (if (wrap64 ((wrap64 (2 * x11)) + 1)) < (x3.length : Int) then (hexa_Digits.l0 k x0 ((x3.set ((wrap64 (2 * x11)) : Int).toNat (bt (⟨#[48, 49, 50, 51, 52, 53, 54, 55, 56, 57, 97, 98, 99, 100, 101, 102]⟩ : ByteArray) ((bt x0 x11) / 16))).set ((wrap64 ((wrap64 (2 * x11)) + 1)) : Int).toNat (bt (⟨#[48, 49, 50, 51, 52, 53, 54, 55, 56, 57, 97, 98, 99, 100, 101, 102]⟩ : ByteArray) (Go.bits .and .u8 (bt x0 x11) 15))) x10 (wrap64 (x11 + 1))) else (none)) else (none)) else (none)) else (none)) else (none)) else (none)) else (none)) else (none)) else (none)) else (none)) else (some (strOfNums x3))
def hexa_Digits.f (k : Nat) (a0 : ByteArray) : Option (ByteArray) := if 0 ≤ (wrap64 (2 * (a0.size : Int))) then (if (wrap64 (2 * (a0.size : Int)) : Int).toNat ≤ 281474976710656 then (hexa_Digits.l0 k a0 (List.replicate (wrap64 (2 * (a0.size : Int)) : Int).toNat 0) (a0.size : Int) 0) else (none)) else (none)
theorem hexa_Digits.mono_l : ∀ k, (∀ y0 y1 y2 y3, LeO (hexa_Digits.l0 k y0 y1 y2 y3) (hexa_Digits.l0 (k + 1) y0 y1 y2 y3))
  | 0 => fun _ _ _ _ r h => by simp [hexa_Digits.l0] at h
  | k + 1 => by
    have ih0 := hexa_Digits.mono_l k
    · intro y0 y1 y2 y3
      unfold hexa_Digits.l0
      repeat' first
      | (with_reducible exact ih0 _ _ _ _)
      | (with_reducible exact LeO.refl _)
      | (with_reducible exact LeO.none _)
      | (with_reducible refine LeO.ite ?_ ?_)
      | (with_reducible refine LeO.bind ?_ (fun _ => ?_))
      | exact ih0 _ _ _ _
      | exact LeO.none _
      | refine LeO.ite ?_ ?_
      | refine LeO.bind ?_ (fun _ => ?_)
theorem hexa_Digits.mono : ∀ a0 k, LeO (hexa_Digits.f k a0) (hexa_Digits.f (k + 1) a0) := by
  intro a0 k
  have ih0 := hexa_Digits.mono_l k
  unfold hexa_Digits.f
  repeat' first
      | (with_reducible exact ih0 _ _ _ _)
      | (with_reducible exact LeO.refl _)
      | (with_reducible exact LeO.none _)
      | (with_reducible refine LeO.ite ?_ ?_)
      | (with_reducible refine LeO.bind ?_ (fun _ => ?_))
      | exact ih0 _ _ _ _
      | exact LeO.none _
      | refine LeO.ite ?_ ?_
      | refine LeO.bind ?_ (fun _ => ?_)
def hexa_Digits.T5 : Bool × List (List Nat × List Nat) := (true, [([], []), ([], []), ([1], [1]), ([], []), ([], []), ([4], [4]), ([5], [5]), ([], []), ([], []), ([7, 8], [7, 8]), ([9], [9]), ([10], [10]), ([], []), ([], []), ([12, 13], [12, 13]), ([14], [14]), ([15], [15]), ([0, 2, 0, 1, 2, 7, 8, 9, 10, 11], [0, 2]), ([17, 11, 0, 1, 2, 7, 8, 9, 10, 11], [11, 17]), ([3, 6, 0, 1, 2, 3, 4, 5, 6, 7, 8, 9, 10, 11, 12, 13, 14, 15, 16, 17, 18], [3, 6]), ([19, 16, 18, 0, 1, 2, 3, 4, 5, 6, 7, 8, 9, 10, 11, 12, 13, 14, 15, 16, 17, 18], [16, 19])])
def hexa_Digits.B5 : List Nat := [0, 0, 2, 0, 0, 16, 48, 0, 0, 384, 896, 1920, 0, 0, 12288, 28672, 61440, 3975, 135047, 524287, 1048575]
theorem hexa_Digits.tab5 : rtab .any (opsOf Tryz.f36 5) = hexa_Digits.T5 := by kernel_rfl
theorem hexa_Digits.bits5 : waitsOk hexa_Digits.T5.2 hexa_Digits.B5 = true := by kernel_rfl
set_option maxHeartbeats 8000000 in
set_option maxRecDepth 100000 in
theorem hexa_Digits.calls (k : Nat) (a0 : ByteArray) (r : ByteArray) (w : World) (h : hexa_Digits.f k a0 = some r) :
    Calls Tryz.prog 36 #[.string a0] w fun e w' => e = .returned (.string r) ∧ Below w.heap.size w w' := by
  have HB := Aside0.mk (Below.refl w.heap.size w)
  have H : (if 0 ≤ (wrap64 (2 * (a0.size : Int))) then (if (wrap64 (2 * (a0.size : Int)) : Int).toNat ≤ 281474976710656 then (hexa_Digits.l0 k a0 (List.replicate (wrap64 (2 * (a0.size : Int)) : Int).toNat 0) (a0.size : Int) 0) else (none)) else (none)) = some r := h
  clear h
  obtain ⟨ji2, hji2⟩ : ∃ j_ : Int, (wrap64 (2 * (a0.size : Int))) = j_ := ⟨_, rfl⟩
  replace H : (if 0 ≤ (ji2) then (if (ji2 : Int).toNat ≤ 281474976710656 then (hexa_Digits.l0 k a0 (List.replicate (ji2 : Int).toNat 0) (a0.size : Int) 0) else (none)) else (none)) = some r := by first | (rw [hji2] at H; exact H) | (simp only [hji2] at H ⊢; exact H)
  have hji2w : (IntKind.i64.wrap (2 * (a0.size : Int))) = ji2 := (i64_w _).trans hji2
  by_cases c3 : 0 ≤ (ji2)
  · rw [if_pos c3] at H
    have c3b0 := eq_true c3
    have c3b1 : decide (0 ≤ (ji2)) = true := decide_eq_true c3
    clear c3
    by_cases c4 : (ji2 : Int).toNat ≤ 281474976710656
    · rw [if_pos c4] at H
      have c4b0 := eq_true c4
      have c4b1 : decide ((ji2 : Int).toNat ≤ 281474976710656) = true := decide_eq_true c4
      clear c4
      obtain ⟨y113, hy113⟩ : ∃ y_ : List Int, y_ = (List.replicate (ji2 : Int).toNat 0) := ⟨_, rfl⟩
      replace H : (hexa_Digits.l0 k a0 y113 (a0.size : Int) 0) = some r := by first | (rw [hy113]; with_reducible exact H) | (have H2_ := (Option.bind_some _ _).symm.trans H; rw [hy113]; with_reducible exact H2_) | (have H2_ := (Option.bind_some _ _).symm.trans H; with_reducible exact H2_) | with_reducible exact H | (rw [hy113]; exact H) | exact H
      have Ny113 := Aside0.mk hy113
      clear hy113
      have H' := Aside0.mk H
      clear H
      go_enter Tryz.func36, Tryz.ntmps36
      go_wp2_with (first | ((with_reducible refine gate_dst (N := 8) rfl ?_); refine Kd.R_make (Kd.int .u8) _ 5 rfl (N := 8) rfl 54 _ _ rfl ji2 rfl rfl Tryz.underlying54 (.int .u8 0) 1 info5 rfl (by decide) (by omega) 0 (ok := fun _ => True) (okp := fun _ => True) rfl (fun _ hk => hk) trivial (of_decide_eq_true (by first | (with_reducible assumption) | assumption)) (Nat.le_trans (Nat.mul_le_mul_right _ (of_decide_eq_true (by first | (with_reducible assumption) | assumption) : ji2.toNat ≤ 281474976710656)) (by omega)) (Below.refl _ _) (Nat.le_refl _) ?_; intro v114 w5 ho6 hb hg_ hnew_; clear hg_ hnew_; (first | rw [← Ny113.out] at ho6 | (simp only [Int.reduceToNat] at ho6; rw [← Ny113.out] at ho6)); have n0_ := Aside0.mk (Kd.R_lower ho6 (below_size (by repeat (first | (with_reducible first | exact HB.out | apply below_alloc | apply pw_below_drewN | apply below_drew1) | exact HB.out)))); have n1_ := Aside0.mk (below_step (by repeat (first | (with_reducible first | exact HB.out | apply below_alloc | apply pw_below_drewN | apply below_drew1) | exact HB.out)) hb); clear HB; have HO115 := n0_; have HB := n1_; clear n0_ n1_; clear hb ho6))
      go_loopg [11] k (fun kq v11 w' => ∃ (x3_1 : List Int) (x11_1 : Int), v11 = .int .i64 x11_1 ∧ Aside0 (hexa_Digits.l0 kq a0 x3_1 (a0.size : Int) x11_1 = some r) ∧ Aside0 (kq ≤ k) ∧ Aside0 (Kd.R (Kd.int .u8) 5 w' w.heap.size (fun _ => True) v114 x3_1) ∧ Aside0 (Below w.heap.size w w'))
      case atStart => exact ⟨(y113), (0), (by first | rfl | (simp; done) | (simp [*]; done)), H', ⟨Nat.le_refl _⟩, ⟨by (with_reducible repeat (first | apply Kd.R_alloc | apply Kd.R_drewN | apply Kd.R_drew)); exact HO115.out⟩, ⟨by repeat (first | (with_reducible first | exact HB.out | apply below_alloc | apply pw_below_drewN | apply below_drew1) | exact HB.out)⟩⟩
      case round =>
        clear H'
        try clear p2
        try clear c3
        try clear c3b0
        try clear c3b1
        try clear c4
        try clear c4b0
        try clear c4b1
        try clear p6
        obtain ⟨x3_1, x11_1, rfl, HA, HK1, HO_3, HB⟩ := hrel
        cases gk with
        | zero => exact absurd HA.out (by simp [hexa_Digits.l0])
        | succ k1 =>
          have H := HA.out
          clear HA
          simp only [hexa_Digits.l0] at H
          by_cases c7 : x11_1 < (a0.size : Int)
          · rw [if_pos c7] at H
            have c7b0 : decide (x11_1 < (a0.size : Int)) = true := decide_eq_true c7
            clear c7
            by_cases c8 : 0 ≤ x11_1
            · rw [if_pos c8] at H
              have c8b0 : decide (0 ≤ x11_1) = true := decide_eq_true c8
              clear c8
              by_cases c9 : x11_1 < (a0.size : Int)
              · rw [if_pos c9] at H
                have c9b0 : decide (x11_1 < (a0.size : Int)) = true := decide_eq_true c9
                clear c9
                obtain ⟨ji11, hji11⟩ : ∃ j_ : Int, ((bt a0 x11_1) / 16) = j_ := ⟨_, rfl⟩
                replace H : (if 0 ≤ (ji11) then (if (ji11) < 16 then (if 0 ≤ (Go.bits .and .u8 (bt a0 x11_1) 15) then (if (Go.bits .and .u8 (bt a0 x11_1) 15) < 16 then (if 0 ≤ (wrap64 (2 * x11_1)) then (if (wrap64 (2 * x11_1)) < (x3_1.length : Int) then (if 0 ≤ (wrap64 ((wrap64 (2 * x11_1)) + 1)) then (if (wrap64 ((wrap64 (2 * x11_1)) + 1)) < (x3_1.length : Int) then (hexa_Digits.l0 k1 a0 ((x3_1.set ((wrap64 (2 * x11_1)) : Int).toNat (bt (⟨#[48, 49, 50, 51, 52, 53, 54, 55, 56, 57, 97, 98, 99, 100, 101, 102]⟩ : ByteArray) (ji11))).set ((wrap64 ((wrap64 (2 * x11_1)) + 1)) : Int).toNat (bt (⟨#[48, 49, 50, 51, 52, 53, 54, 55, 56, 57, 97, 98, 99, 100, 101, 102]⟩ : ByteArray) (Go.bits .and .u8 (bt a0 x11_1) 15))) (a0.size : Int) (wrap64 (x11_1 + 1))) else (none)) else (none)) else (none)) else (none)) else (none)) else (none)) else (none)) else (none)) = some r := by first | (rw [hji11] at H; exact H) | (simp only [hji11] at H ⊢; exact H)
                by_cases c12 : 0 ≤ (ji11)
                · rw [if_pos c12] at H
                  have c12b0 : decide (0 ≤ (ji11)) = true := decide_eq_true c12
                  clear c12
                  by_cases c13 : (ji11) < 16
                  · rw [if_pos c13] at H
                    have c13b0 : decide ((ji11) < 16) = true := decide_eq_true c13
                    clear c13
                    by_cases c16 : 0 ≤ (Go.bits .and .u8 (bt a0 x11_1) 15)
                    · rw [if_pos c16] at H
                      have c16b0 : decide (0 ≤ (Go.bits .and .u8 (bt a0 x11_1) 15)) = true := decide_eq_true c16
                      clear c16
                      by_cases c17 : (Go.bits .and .u8 (bt a0 x11_1) 15) < 16
                      · rw [if_pos c17] at H
                        have c17b0 : decide ((Go.bits .and .u8 (bt a0 x11_1) 15) < 16) = true := decide_eq_true c17
                        clear c17
                        obtain ⟨ji19, hji19⟩ : ∃ j_ : Int, (wrap64 (2 * x11_1)) = j_ := ⟨_, rfl⟩
                        replace H : (if 0 ≤ (ji19) then (if (ji19) < (x3_1.length : Int) then (if 0 ≤ (wrap64 ((ji19) + 1)) then (if (wrap64 ((ji19) + 1)) < (x3_1.length : Int) then (hexa_Digits.l0 k1 a0 ((x3_1.set ((ji19) : Int).toNat (bt (⟨#[48, 49, 50, 51, 52, 53, 54, 55, 56, 57, 97, 98, 99, 100, 101, 102]⟩ : ByteArray) (ji11))).set ((wrap64 ((ji19) + 1)) : Int).toNat (bt (⟨#[48, 49, 50, 51, 52, 53, 54, 55, 56, 57, 97, 98, 99, 100, 101, 102]⟩ : ByteArray) (Go.bits .and .u8 (bt a0 x11_1) 15))) (a0.size : Int) (wrap64 (x11_1 + 1))) else (none)) else (none)) else (none)) else (none)) = some r := by first | (rw [hji19] at H; exact H) | (simp only [hji19] at H ⊢; exact H)
                        have hji19w : (IntKind.i64.wrap (2 * x11_1)) = ji19 := (i64_w _).trans hji19
                        by_cases c20 : 0 ≤ (ji19)
                        · rw [if_pos c20] at H
                          have c20b0 : decide (0 ≤ (ji19)) = true := decide_eq_true c20
                          clear c20
                          by_cases c21 : (ji19) < (x3_1.length : Int)
                          · rw [if_pos c21] at H
                            have c21b0 : decide ((ji19) < (x3_1.length : Int)) = true := decide_eq_true c21
                            clear c21
                            obtain ⟨y116, hy116⟩ : ∃ y_ : List Int, y_ = (x3_1.set ((ji19) : Int).toNat (bt (⟨#[48, 49, 50, 51, 52, 53, 54, 55, 56, 57, 97, 98, 99, 100, 101, 102]⟩ : ByteArray) (ji11))) := ⟨_, rfl⟩
                            replace H : (if 0 ≤ (wrap64 ((ji19) + 1)) then (if (wrap64 ((ji19) + 1)) < (x3_1.length : Int) then (hexa_Digits.l0 k1 a0 (y116.set ((wrap64 ((ji19) + 1)) : Int).toNat (bt (⟨#[48, 49, 50, 51, 52, 53, 54, 55, 56, 57, 97, 98, 99, 100, 101, 102]⟩ : ByteArray) (Go.bits .and .u8 (bt a0 x11_1) 15))) (a0.size : Int) (wrap64 (x11_1 + 1))) else (none)) else (none)) = some r := by first | (rw [hy116]; with_reducible exact H) | (have H2_ := (Option.bind_some _ _).symm.trans H; rw [hy116]; with_reducible exact H2_) | (have H2_ := (Option.bind_some _ _).symm.trans H; with_reducible exact H2_) | with_reducible exact H | (rw [hy116]; exact H) | exact H
                            have Ny116 := Aside0.mk hy116
                            clear hy116
                            obtain ⟨ji23, hji23⟩ : ∃ j_ : Int, (wrap64 ((ji19) + 1)) = j_ := ⟨_, rfl⟩
                            replace H : (if 0 ≤ (ji23) then (if (ji23) < (x3_1.length : Int) then (hexa_Digits.l0 k1 a0 (y116.set ((ji23) : Int).toNat (bt (⟨#[48, 49, 50, 51, 52, 53, 54, 55, 56, 57, 97, 98, 99, 100, 101, 102]⟩ : ByteArray) (Go.bits .and .u8 (bt a0 x11_1) 15))) (a0.size : Int) (wrap64 (x11_1 + 1))) else (none)) else (none)) = some r := by first | (rw [hji23] at H; exact H) | (simp only [hji23] at H ⊢; exact H)
                            have hji23w : (IntKind.i64.wrap ((ji19) + 1)) = ji23 := (i64_w _).trans hji23
                            by_cases c24 : 0 ≤ (ji23)
                            · rw [if_pos c24] at H
                              have c24b0 : decide (0 ≤ (ji23)) = true := decide_eq_true c24
                              clear c24
                              by_cases c25 : (ji23) < (x3_1.length : Int)
                              · rw [if_pos c25] at H
                                have c25b0 : decide ((ji23) < (x3_1.length : Int)) = true := decide_eq_true c25
                                clear c25
                                obtain ⟨y117, hy117⟩ : ∃ y_ : List Int, y_ = (y116.set ((ji23) : Int).toNat (bt (⟨#[48, 49, 50, 51, 52, 53, 54, 55, 56, 57, 97, 98, 99, 100, 101, 102]⟩ : ByteArray) (Go.bits .and .u8 (bt a0 x11_1) 15))) := ⟨_, rfl⟩
                                replace H : (hexa_Digits.l0 k1 a0 y117 (a0.size : Int) (wrap64 (x11_1 + 1))) = some r := by first | (rw [hy117]; with_reducible exact H) | (have H2_ := (Option.bind_some _ _).symm.trans H; rw [hy117]; with_reducible exact H2_) | (have H2_ := (Option.bind_some _ _).symm.trans H; with_reducible exact H2_) | with_reducible exact H | (rw [hy117]; exact H) | exact H
                                have Ny117 := Aside0.mk hy117
                                clear hy117
                                have H' := Aside0.mk H
                                clear H
                                try go_wp2
                                have n0_ := Aside0.mk (Kd.R_drew HO_3.out)
                                have n1_ := Aside0.mk (below_drew1 HB.out)
                                clear HO_3
                                clear HB
                                have HO_3 := n0_
                                have HB := n1_
                                clear n0_ n1_
                                have p10 : 0 ≤ (x11_1 : Int) := of_decide_eq_true (by first | (with_reducible assumption) | assumption)
                                have q10 : x11_1 < (a0.size : Int) := of_decide_eq_true (by first | (with_reducible assumption) | assumption)
                                have hx10 := bt_at a0 x11_1
                                replace p10 := eq_true p10
                                replace q10 := eq_true q10
                                have p14 : 0 ≤ ((ji11) : Int) := of_decide_eq_true (by first | (with_reducible assumption) | assumption)
                                have q14 : (ji11) < (16 : Int) := of_decide_eq_true (by first | (with_reducible assumption) | assumption)
                                have hx14 := bt_at (⟨#[48, 49, 50, 51, 52, 53, 54, 55, 56, 57, 97, 98, 99, 100, 101, 102]⟩ : ByteArray) (ji11)
                                replace p14 := eq_true p14
                                replace q14 := eq_true q14
                                have p15 : 0 ≤ (x11_1 : Int) := of_decide_eq_true (by first | (with_reducible assumption) | assumption)
                                have q15 : x11_1 < (a0.size : Int) := of_decide_eq_true (by first | (with_reducible assumption) | assumption)
                                have hx15 := bt_at a0 x11_1
                                replace p15 := eq_true p15
                                replace q15 := eq_true q15
                                have p18 : 0 ≤ ((Go.bits .and .u8 (bt a0 x11_1) 15) : Int) := of_decide_eq_true (by first | (with_reducible assumption) | assumption)
                                have q18 : (Go.bits .and .u8 (bt a0 x11_1) 15) < (16 : Int) := of_decide_eq_true (by first | (with_reducible assumption) | assumption)
                                have hx18 := bt_at (⟨#[48, 49, 50, 51, 52, 53, 54, 55, 56, 57, 97, 98, 99, 100, 101, 102]⟩ : ByteArray) (Go.bits .and .u8 (bt a0 x11_1) 15)
                                replace p18 := eq_true p18
                                replace q18 := eq_true q18
                                have p22 : 0 ≤ ((ji19) : Int) := of_decide_eq_true (by first | (with_reducible assumption) | assumption)
                                have q22 : ((ji19) : Int) < ((x3_1.length : Int) : Int) := of_decide_eq_true (by first | (with_reducible assumption) | assumption)
                                obtain ⟨go22, co22, eo22, gb22, gl22, cl22, HG22⟩ := Kd.R_form HO_3.out (by omega)
                                (first | cases eo22 | (injection eo22 with ea_ en_ ec_; (first | subst ea_ | (injection ea_ with ea_; subst ea_)); subst ec_; clear en_))
                                have GB22 := Aside0.mk gb22
                                have GG22 := Aside0.mk HG22
                                clear gb22 gl22 HG22
                                obtain ⟨hx22_0, hf22_0⟩ := Kd.R_celln 0 HO_3.out ((ji19) : Int) p22 q22
                                replace p22 := eq_true p22
                                replace q22 := eq_true q22
                                have HP28 := Kd.R_putn HO_3.out ((ji19) : Int) (bt (⟨#[48, 49, 50, 51, 52, 53, 54, 55, 56, 57, 97, 98, 99, 100, 101, 102]⟩ : ByteArray) (ji11))
                                rw [← Ny116.out] at HP28
                                have HQ28 := Aside0.mk HP28
                                clear HP28
                                have p26 : 0 ≤ ((ji23) : Int) := of_decide_eq_true (by first | (with_reducible assumption) | assumption)
                                have q26 : ((ji23) : Int) < ((x3_1.length : Int) : Int) := of_decide_eq_true (by first | (with_reducible assumption) | assumption)
                                obtain ⟨hx26_0, hf26_0⟩ := Kd.R_celln 0 HQ28.out ((ji23) : Int) p26 q26
                                replace p26 := eq_true p26
                                replace q26 := eq_true q26
                                have HP29 := Kd.R_putn HQ28.out ((ji23) : Int) (bt (⟨#[48, 49, 50, 51, 52, 53, 54, 55, 56, 57, 97, 98, 99, 100, 101, 102]⟩ : ByteArray) (Go.bits .and .u8 (bt a0 x11_1) 15))
                                rw [← Ny117.out] at HP29
                                have HQ29 := Aside0.mk HP29
                                clear HP29
                                refine start_ (n := 21) (S := fun w' => True) (ds := [18, 20]) #[false, false, false, false, false, false, false, false, false, false, false, false, false, false, false, false, false, false, false, false, false] (by kernel_rfl) rfl rfl trivial (fun hHeld => ?_); refine with_tabW hexa_Digits.tab5 hexa_Digits.bits5 (fun HT_ HW_ => ?_)
                                generalize wr.drew = w27 at HO_3 HB GG22 HQ28 HQ29 hf22_0 hf26_0 hx22_0 hx26_0 hHeld ⊢
                                refine pure_ (i := 0) (N := some 14) (v := ?_) (a' := ?_) #[true, false, false, false, false, false, false, false, false, false, false, false, false, false, false, false, false, false, false, false, false] rfl rfl (any_of HT_.out (by kernel_rfl)) (fun _ _ _ h => h) (Or.inl ⟨by rfl, ?_⟩) ?_ ?_
                                rotate_left
                                · intro w'
                                  go_simp
                                  with_reducible rfl
                                rotate_left
                                · simp only [Act.put, List.setIfInBounds_toArray, List.set_cons_zero, List.set_cons_succ, i64_w, i32_w]
                                  rfl
                                refine pure_ (i := 1) (N := some 15) (v := ?_) (a' := ?_) #[true, true, false, false, false, false, false, false, false, false, false, false, false, false, false, false, false, false, false, false, false] rfl rfl (any_of HT_.out (by kernel_rfl)) (fun _ _ _ h => h) (Or.inl ⟨by rfl, ?_⟩) ?_ ?_
                                rotate_left
                                · intro w'
                                  go_simp
                                  with_reducible rfl
                                rotate_left
                                · simp only [Act.put, List.setIfInBounds_toArray, List.set_cons_zero, List.set_cons_succ, i64_w, i32_w]
                                  rfl
                                refine pure_ (i := 2) (N := some 16) (v := ?_) (a' := ?_) #[true, true, true, false, false, false, false, false, false, false, false, false, false, false, false, false, false, false, false, false, false] rfl rfl (any_of HT_.out (by kernel_rfl)) (fun _ _ _ h => h) (Or.inl ⟨by rfl, ?_⟩) ?_ ?_
                                rotate_left
                                · intro w'
                                  go_simp
                                  with_reducible rfl
                                rotate_left
                                · simp only [Act.put, List.setIfInBounds_toArray, List.set_cons_zero, List.set_cons_succ, i64_w, i32_w]
                                  rfl
                                refine pure_ (i := 3) (N := some 17) (v := ?_) (a' := ?_) #[true, true, true, true, false, false, false, false, false, false, false, false, false, false, false, false, false, false, false, false, false] rfl rfl (any_of HT_.out (by kernel_rfl)) (fun _ _ _ h => h) (Or.inl ⟨by rfl, ?_⟩) ?_ ?_
                                rotate_left
                                · intro w'
                                  go_simp
                                  with_reducible rfl
                                rotate_left
                                · simp only [Act.put, List.setIfInBounds_toArray, List.set_cons_zero, List.set_cons_succ, i64_w, i32_w]
                                  rfl
                                refine pure_ (i := 4) (N := some 18) (v := ?_) (a' := ?_) #[true, true, true, true, true, false, false, false, false, false, false, false, false, false, false, false, false, false, false, false, false] rfl rfl (any_of HT_.out (by kernel_rfl)) (fun _ _ _ h => h) (Or.inl ⟨by rfl, ?_⟩) ?_ ?_
                                rotate_left
                                · intro w'
                                  go_simp
                                  with_reducible rfl
                                rotate_left
                                · simp only [Act.put, List.setIfInBounds_toArray, List.set_cons_zero, List.set_cons_succ, i64_w, i32_w]
                                  rfl
                                refine pure_ (i := 5) (N := some 19) (v := ?_) (a' := ?_) #[true, true, true, true, true, true, false, false, false, false, false, false, false, false, false, false, false, false, false, false, false] rfl rfl (any_of HT_.out (by kernel_rfl)) (fun _ _ _ h => h) (Or.inl ⟨by rfl, ?_⟩) ?_ ?_
                                rotate_left
                                · intro w'
                                  go_simp
                                  with_reducible rfl
                                rotate_left
                                · simp only [Act.put, List.setIfInBounds_toArray, List.set_cons_zero, List.set_cons_succ, i64_w, i32_w]
                                  rfl
                                refine pure_ (i := 6) (N := some 20) (v := ?_) (a' := ?_) #[true, true, true, true, true, true, true, false, false, false, false, false, false, false, false, false, false, false, false, false, false] rfl rfl (any_of HT_.out (by kernel_rfl)) (fun _ _ _ h => h) (Or.inl ⟨by rfl, ?_⟩) ?_ ?_
                                rotate_left
                                · intro w'
                                  go_simp
                                  with_reducible rfl
                                rotate_left
                                · simp only [Act.put, List.setIfInBounds_toArray, List.set_cons_zero, List.set_cons_succ, i64_w, i32_w]
                                  rfl
                                refine pure_ (i := 7) (N := some 21) (v := ?_) (a' := ?_) #[true, true, true, true, true, true, true, true, false, false, false, false, false, false, false, false, false, false, false, false, false] rfl rfl (any_of HT_.out (by kernel_rfl)) (fun _ _ _ h => h) (Or.inl ⟨by rfl, ?_⟩) ?_ ?_
                                rotate_left
                                · intro w'
                                  go_simp
                                  with_reducible rfl
                                rotate_left
                                · simp only [Act.put, List.setIfInBounds_toArray, List.set_cons_zero, List.set_cons_succ, i64_w, i32_w]
                                  rfl
                                refine pure_ (i := 8) (N := some 22) (v := ?_) (a' := ?_) #[true, true, true, true, true, true, true, true, true, false, false, false, false, false, false, false, false, false, false, false, false] rfl rfl (any_of HT_.out (by kernel_rfl)) (fun _ _ _ h => h) (Or.inl ⟨by rfl, ?_⟩) ?_ ?_
                                rotate_left
                                · intro w'
                                  go_simp
                                  with_reducible rfl
                                rotate_left
                                · simp only [Act.put, List.setIfInBounds_toArray, List.set_cons_zero, List.set_cons_succ, i64_w, i32_w]
                                  rfl
                                refine pure_ (i := 9) (N := some 23) (v := ?_) (a' := ?_) #[true, true, true, true, true, true, true, true, true, true, false, false, false, false, false, false, false, false, false, false, false] rfl rfl (any_of HT_.out (by kernel_rfl)) (fun _ _ _ h => h) (Or.inl ⟨by rfl, ?_⟩) ?_ ?_
                                rotate_left
                                · intro w'
                                  go_simp
                                  with_reducible rfl
                                rotate_left
                                · simp only [Act.put, List.setIfInBounds_toArray, List.set_cons_zero, List.set_cons_succ, i64_w, i32_w]
                                  rfl
                                refine pure_ (i := 10) (N := some 24) (v := ?_) (a' := ?_) #[true, true, true, true, true, true, true, true, true, true, true, false, false, false, false, false, false, false, false, false, false] rfl rfl (any_of HT_.out (by kernel_rfl)) (fun _ _ _ h => h) (Or.inl ⟨by rfl, ?_⟩) ?_ ?_
                                rotate_left
                                · intro w'
                                  go_simp
                                  with_reducible rfl
                                rotate_left
                                · simp only [Act.put, List.setIfInBounds_toArray, List.set_cons_zero, List.set_cons_succ, i64_w, i32_w]
                                  rfl
                                refine pure_ (i := 11) (N := some 25) (v := ?_) (a' := ?_) #[true, true, true, true, true, true, true, true, true, true, true, true, false, false, false, false, false, false, false, false, false] rfl rfl (any_of HT_.out (by kernel_rfl)) (fun _ _ _ h => h) (Or.inl ⟨by rfl, ?_⟩) ?_ ?_
                                rotate_left
                                · intro w'
                                  go_simp
                                  with_reducible rfl
                                rotate_left
                                · simp only [Act.put, List.setIfInBounds_toArray, List.set_cons_zero, List.set_cons_succ, i64_w, i32_w]
                                  rfl
                                refine pure_ (i := 12) (N := some 26) (v := ?_) (a' := ?_) #[true, true, true, true, true, true, true, true, true, true, true, true, true, false, false, false, false, false, false, false, false] rfl rfl (any_of HT_.out (by kernel_rfl)) (fun _ _ _ h => h) (Or.inl ⟨by rfl, ?_⟩) ?_ ?_
                                rotate_left
                                · intro w'
                                  go_simp
                                  with_reducible rfl
                                rotate_left
                                · simp only [Act.put, List.setIfInBounds_toArray, List.set_cons_zero, List.set_cons_succ, i64_w, i32_w]
                                  rfl
                                refine pure_ (i := 13) (N := some 27) (v := ?_) (a' := ?_) #[true, true, true, true, true, true, true, true, true, true, true, true, true, true, false, false, false, false, false, false, false] rfl rfl (any_of HT_.out (by kernel_rfl)) (fun _ _ _ h => h) (Or.inl ⟨by rfl, ?_⟩) ?_ ?_
                                rotate_left
                                · intro w'
                                  go_simp
                                  with_reducible rfl
                                rotate_left
                                · simp only [Act.put, List.setIfInBounds_toArray, List.set_cons_zero, List.set_cons_succ, i64_w, i32_w]
                                  rfl
                                refine pure_ (i := 14) (N := some 28) (v := ?_) (a' := ?_) #[true, true, true, true, true, true, true, true, true, true, true, true, true, true, true, false, false, false, false, false, false] rfl rfl (any_of HT_.out (by kernel_rfl)) (fun _ _ _ h => h) (Or.inl ⟨by rfl, ?_⟩) ?_ ?_
                                rotate_left
                                · intro w'
                                  go_simp
                                  with_reducible rfl
                                rotate_left
                                · simp only [Act.put, List.setIfInBounds_toArray, List.set_cons_zero, List.set_cons_succ, i64_w, i32_w]
                                  rfl
                                refine pure_ (i := 15) (N := some 29) (v := ?_) (a' := ?_) #[true, true, true, true, true, true, true, true, true, true, true, true, true, true, true, true, false, false, false, false, false] rfl rfl (any_of HT_.out (by kernel_rfl)) (fun _ _ _ h => h) (Or.inl ⟨by rfl, ?_⟩) ?_ ?_
                                rotate_left
                                · intro w'
                                  go_simp
                                  with_reducible rfl
                                rotate_left
                                · simp only [Act.put, List.setIfInBounds_toArray, List.set_cons_zero, List.set_cons_succ, i64_w, i32_w]
                                  rfl
                                refine pure_ (i := 16) (N := some 30) (v := ?_) (a' := ?_) #[true, true, true, true, true, true, true, true, true, true, true, true, true, true, true, true, true, false, false, false, false] rfl rfl (any_of HT_.out (by kernel_rfl)) (fun _ _ _ h => h) (Or.inl ⟨by rfl, ?_⟩) ?_ ?_
                                rotate_left
                                · intro w'
                                  go_simp
                                  with_reducible rfl
                                rotate_left
                                · simp only [Act.put, List.setIfInBounds_toArray, List.set_cons_zero, List.set_cons_succ, i64_w, i32_w]
                                  rfl
                                refine pure_ (i := 17) (N := some 31) (v := ?_) (a' := ?_) #[true, true, true, true, true, true, true, true, true, true, true, true, true, true, true, true, true, true, false, false, false] rfl rfl (any_of HT_.out (by kernel_rfl)) (fun _ _ _ h => h) (Or.inl ⟨by rfl, ?_⟩) ?_ ?_
                                rotate_left
                                · intro w'
                                  go_simp
                                  with_reducible rfl
                                rotate_left
                                · simp only [Act.put, List.setIfInBounds_toArray, List.set_cons_zero, List.set_cons_succ, i64_w, i32_w]
                                  rfl
                                refine last_ (i := 18) (N := none) #[true, true, true, true, true, true, true, true, true, true, true, true, true, true, true, true, true, true, true, false, false] rfl rfl (one_of HT_.out (by kernel_rfl)) (by decide) (fun K hK => ?_)
                                refine skip_ (w1 := ?_) (by rfl) rfl ?_ ?_
                                rotate_left
                                · go_simp
                                  rfl
                                refine hK.out _ _ ?_
                                clear hK K
                                refine pure_ (i := 19) (N := some 32) (v := ?_) (a' := ?_) #[true, true, true, true, true, true, true, true, true, true, true, true, true, true, true, true, true, true, true, true, false] rfl rfl (any_of HT_.out (by kernel_rfl)) (fun _ _ _ h => h) (Or.inl ⟨by rfl, ?_⟩) ?_ ?_
                                rotate_left
                                · intro w'
                                  go_simp
                                  with_reducible rfl
                                rotate_left
                                · simp only [Act.put, List.setIfInBounds_toArray, List.set_cons_zero, List.set_cons_succ, i64_w, i32_w]
                                  rfl
                                refine last_ (i := 20) (N := none) #[true, true, true, true, true, true, true, true, true, true, true, true, true, true, true, true, true, true, true, true, true] rfl rfl (one_of HT_.out (by kernel_rfl)) (by decide) (fun K hK => ?_)
                                refine skip_ (w1 := ?_) (by rfl) rfl ?_ ?_
                                rotate_left
                                · go_simp
                                  rfl
                                refine hK.out _ _ ?_
                                clear hK K
                                refine done_ (done_of HT_.out (by kernel_rfl)) ?_
                                try go_wp2
                                go_roundg k1
                                case measure => have := HK1.out; omega
                                case rel => exact ⟨(y117), (wrap64 (x11_1 + 1)), (by first | rfl | (simp; done) | (simp [*]; done)), H', ⟨by have := HK1.out; omega⟩, ⟨by (with_reducible repeat (first | apply Kd.R_alloc | apply Kd.R_drewN | apply Kd.R_drew)); exact HQ29.out⟩, ⟨by repeat (first | (with_reducible first | exact HB.out | apply below_alloc | apply pw_below_drewN | apply below_drew1 | refine below_set ?_ GB22.out | refine below_set ?_ GB22.out) | exact HB.out)⟩⟩
                              · rw [if_neg c25] at H
                                exact absurd H (by simp)
                            · rw [if_neg c24] at H
                              exact absurd H (by simp)
                          · rw [if_neg c21] at H
                            exact absurd H (by simp)
                        · rw [if_neg c20] at H
                          exact absurd H (by simp)
                      · rw [if_neg c17] at H
                        exact absurd H (by simp)
                    · rw [if_neg c16] at H
                      exact absurd H (by simp)
                  · rw [if_neg c13] at H
                    exact absurd H (by simp)
                · rw [if_neg c12] at H
                  exact absurd H (by simp)
              · rw [if_neg c9] at H
                exact absurd H (by simp)
            · rw [if_neg c8] at H
              exact absurd H (by simp)
          · rw [if_neg c7] at H
            have c7b0 : decide (x11_1 < (a0.size : Int)) = false := decide_eq_false c7
            clear c7
            obtain rfl := Option.some.inj H
            have hcv30 := own_string (P := Tryz.prog) Tryz.underlying54 Tryz.underlying5 Tryz.underlying9 (Kd.own_of_R HO_3.out)
            go_wp2
            go_ret
            exact ⟨by first | rfl | (simp [errW_none, errW_some] <;> rfl) | (simp only [← hji2]; first | rfl | (simp [errW_none, errW_some] <;> rfl)) | (simp [*, errW_none, errW_some] <;> rfl), by repeat (first | (with_reducible first | exact HB.out | apply below_alloc | apply pw_below_drewN | apply below_drew1) | exact HB.out)⟩
    · rw [if_neg c4] at H
      exact absurd H (by simp)
  · rw [if_neg c3] at H
    exact absurd H (by simp)
def hexa_Size.f (a0 : Int) : Option (Int) := if a0 = 1 then (some 20) else (if a0 = 2 then (some 32) else (some 0))
set_option maxHeartbeats 8000000 in
set_option maxRecDepth 100000 in
theorem hexa_Size.calls (a0 : Int) (r : Int) (w : World) (h : hexa_Size.f a0 = some r) :
    Calls Tryz.prog 24 #[.int .i64 a0] w fun e w' => e = .returned (.int .i64 r) ∧ Drawn0 w w' := by
  have H : (if a0 = 1 then (some 20) else (if a0 = 2 then (some 32) else (some 0))) = some r := h
  clear h
  by_cases c2 : a0 = 1
  · rw [if_pos c2] at H
    have c2b0 : (a0 == 1) = true := beq_iff_eq.mpr c2
    have c2b1 : (a0 != 1) = false := bne_eq_false_iff_eq.mpr c2
    clear c2
    obtain rfl := Option.some.inj H
    go_enter Tryz.func24, Tryz.ntmps24
    go_wp2
    go_ret
    exact ⟨by first | rfl | (simp; done) | (simp [*]; done), by repeat (first | exact Drawn0.refl _ | apply Drawn0.step)⟩
  · rw [if_neg c2] at H
    have c2b0 : (a0 == 1) = false := beq_eq_false_iff_ne.mpr c2
    have c2b1 : (a0 != 1) = true := bne_iff_ne.mpr c2
    by_cases c3 : a0 = 2
    · rw [if_pos c3] at H
      have c3b0 : (a0 == 2) = true := beq_iff_eq.mpr c3
      have c3b1 : (a0 != 2) = false := bne_eq_false_iff_eq.mpr c3
      clear c3
      obtain rfl := Option.some.inj H
      go_enter Tryz.func24, Tryz.ntmps24
      go_wp2
      go_ret
      exact ⟨by first | rfl | (simp; done) | (simp [*]; done), by repeat (first | exact Drawn0.refl _ | apply Drawn0.step)⟩
    · rw [if_neg c3] at H
      have c3b0 : (a0 == 2) = false := beq_eq_false_iff_ne.mpr c3
      have c3b1 : (a0 != 2) = true := bne_iff_ne.mpr c3
      obtain rfl := Option.some.inj H
      go_enter Tryz.func24, Tryz.ntmps24
      go_wp2
      go_ret
      exact ⟨by first | rfl | (simp; done) | (simp [*]; done), by repeat (first | exact Drawn0.refl _ | apply Drawn0.step)⟩
def bits_RotateLeft32.f (a0 : Int) (a1 : Int) : Option (Int) := if 0 ≤ (Go.bits .and .u64 (IntKind.u64.wrap (a1)) 31) then (if 0 ≤ (IntKind.u64.wrap (32 - (Go.bits .and .u64 (IntKind.u64.wrap (a1)) 31))) then (some (Go.bits .or .u32 (shl .u32 a0 (Go.bits .and .u64 (IntKind.u64.wrap (a1)) 31)) (shr .u32 a0 (IntKind.u64.wrap (32 - (Go.bits .and .u64 (IntKind.u64.wrap (a1)) 31)))))) else (none)) else (none)
set_option maxHeartbeats 8000000 in
set_option maxRecDepth 100000 in
theorem bits_RotateLeft32.calls (a0 : Int) (a1 : Int) (r : Int) (w : World) (h : bits_RotateLeft32.f a0 a1 = some r) :
    Calls Tryz.prog 61 #[.int .u32 a0, .int .i64 a1] w fun e w' => e = .returned (.int .u32 r) ∧ Drawn0 w w' := by
  have H : (if 0 ≤ (Go.bits .and .u64 (IntKind.u64.wrap (a1)) 31) then (if 0 ≤ (IntKind.u64.wrap (32 - (Go.bits .and .u64 (IntKind.u64.wrap (a1)) 31))) then (some (Go.bits .or .u32 (shl .u32 a0 (Go.bits .and .u64 (IntKind.u64.wrap (a1)) 31)) (shr .u32 a0 (IntKind.u64.wrap (32 - (Go.bits .and .u64 (IntKind.u64.wrap (a1)) 31)))))) else (none)) else (none)) = some r := h
  clear h
  obtain ⟨ji3, hji3⟩ : ∃ j_ : Int, (Go.bits .and .u64 (IntKind.u64.wrap (a1)) 31) = j_ := ⟨_, rfl⟩
  replace H : (if 0 ≤ (ji3) then (if 0 ≤ (IntKind.u64.wrap (32 - (ji3))) then (some (Go.bits .or .u32 (shl .u32 a0 (ji3)) (shr .u32 a0 (IntKind.u64.wrap (32 - (ji3)))))) else (none)) else (none)) = some r := by first | (rw [hji3] at H; exact H) | (simp only [hji3] at H ⊢; exact H)
  by_cases c4 : 0 ≤ (ji3)
  · rw [if_pos c4] at H
    have c4b0 := eq_true c4
    have c4b1 : decide (0 ≤ (ji3)) = true := decide_eq_true c4
    clear c4
    obtain ⟨ji5, hji5⟩ : ∃ j_ : Int, (shl .u32 a0 (ji3)) = j_ := ⟨_, rfl⟩
    replace H : (if 0 ≤ (IntKind.u64.wrap (32 - (ji3))) then (some (Go.bits .or .u32 (ji5) (shr .u32 a0 (IntKind.u64.wrap (32 - (ji3)))))) else (none)) = some r := by first | (rw [hji5] at H; exact H) | (simp only [hji5] at H ⊢; exact H)
    have hji5_ : (IntKind.u32.wrap (a0 * 2 ^ min (ji3).toNat 32)) = ji5 := hji5
    have hji5z : (ji3) ≤ 32 → (IntKind.u32.wrap (a0 * 2 ^ (ji3).toNat)) = ji5 := shl_small hji5
    obtain ⟨ji6, hji6⟩ : ∃ j_ : Int, (IntKind.u64.wrap (32 - (ji3))) = j_ := ⟨_, rfl⟩
    replace H : (if 0 ≤ (ji6) then (some (Go.bits .or .u32 (ji5) (shr .u32 a0 (ji6)))) else (none)) = some r := by first | (rw [hji6] at H; exact H) | (simp only [hji6] at H ⊢; exact H)
    by_cases c7 : 0 ≤ (ji6)
    · rw [if_pos c7] at H
      have c7b0 := eq_true c7
      have c7b1 : decide (0 ≤ (ji6)) = true := decide_eq_true c7
      clear c7
      obtain ⟨ji8, hji8⟩ : ∃ j_ : Int, (shr .u32 a0 (ji6)) = j_ := ⟨_, rfl⟩
      replace H : (some (Go.bits .or .u32 (ji5) (ji8))) = some r := by first | (rw [hji8] at H; exact H) | (simp only [hji8] at H ⊢; exact H)
      have hji8_ : (a0 / 2 ^ min (ji6).toNat 32) = ji8 := hji8
      have hji8z : (ji6) ≤ 32 → (a0 / 2 ^ (ji6).toNat) = ji8 := shr_small hji8
      obtain rfl := Option.some.inj H
      go_enter Tryz.func61, Tryz.ntmps61
      go_wp2
      go_ret
      exact ⟨by first | rfl | (simp; done) | (simp only [← hji3, ← hji5, ← hji6, ← hji8] <;> (first | rfl | simp)) | (simp [*]; done), by repeat (first | exact Drawn0.refl _ | apply Drawn0.step)⟩
    · rw [if_neg c7] at H
      exact absurd H (by simp)
  · rw [if_neg c4] at H
    exact absurd H (by simp)
def sha2_turn.f (a0 : Int) (a1 : Int) : Option (Int) := (bits_RotateLeft32.f a0 (wrap64 (-a1))).bind fun t118 => (some t118)
set_option maxHeartbeats 8000000 in
set_option maxRecDepth 100000 in
theorem sha2_turn.calls (a0 : Int) (a1 : Int) (r : Int) (w : World) (h : sha2_turn.f a0 a1 = some r) :
    Calls Tryz.prog 75 #[.int .u32 a0, .int .i64 a1] w fun e w' => e = .returned (.int .u32 r) ∧ Drawn0 w w' := by
  have H : ((bits_RotateLeft32.f a0 (wrap64 (-a1))).bind fun t118 => (some t118)) = some r := h
  clear h
  replace H := Option.bind_eq_some_iff.mp H
  obtain ⟨t118, A30, H⟩ := H
  replace H : (some t118) = some r := H
  have A3 := Aside0.mk A30
  clear A30
  obtain rfl := Option.some.inj H
  go_enter Tryz.func75, Tryz.ntmps75
  go_wp2_with (first | ((with_reducible refine gate_callee (f := 61) rfl ?_); refine goesL_ (some 8) rfl rfl Tryz.func61 (by kernel_rfl) rfl #[.int .u32 a0, .int .i64 (wrap64 (-a1))] rfl (by (try simp only [List.map_toArray, List.map_cons, List.map_nil]); first | done | rfl | (simp only [List.length_drop, List.length_take]; rfl)) ?_; (with_reducible refine (bits_RotateLeft32.calls a0 (wrap64 (-a1)) t118 _ A3.out).mono ?_); rintro e w' ⟨rfl, ⟨nd, rfl⟩⟩; refine ⟨_, rfl, ?_⟩))
  go_ret
  exact ⟨by first | rfl | (simp; done) | (simp [*]; done), by repeat (first | exact Drawn0.refl _ | apply Drawn0.step)⟩
end Go.Proofs.YtfjhnnpdaggnbaaGreatDoor.P
end
/-! D0 -/
section
namespace Go.Proofs.YtfjhnnpdaggnbaaGreatDoor.P
open Go.RowKit Go.Proofs.YtfjhnnpdaggnbaaGreatDoorW.PrintWords Go.Proofs.YtfjhnnpdaggnbaaGreatDoorW.PrintMore
theorem results_c {P : Program} {fn : Func} {p : Tmp} {ty : TypeId} (h : fn.results = #[.cell p ty]) (tmps : Array Value) (w : World) (g : Nat) (t : TypeId) (cs : Array Value) (fr : Nat × Nat) (d : TypeDesc)
    (hp : tmps.getD p undef = .pointer (some ⟨g, 0, none⟩)) (hg : w.heap[g]? = some (.cells cs t fr))
    (hu : P.underlying ty = some d) (hd : (match d with | .struct _ | .array _ _ => true | _ => false) = true) (hi : (P.info? ty).map (·.size) = some cs.size) :
    (results fn tmps).run P w = .ok (.agg cs) w := results_single h (.cell g t cs fr d hp hg hu hd hi .nil)
abbrev Ch := Int × Int × Int × Int × Int
abbrev chV (x : Ch) : Value := .agg #[.int .u32 x.1, .int .u32 x.2.1, .int .u32 x.2.2.1, .int .u32 x.2.2.2.1, .int .u32 x.2.2.2.2]
def sha1_Step.f (x : Ch) (t w : Int) : Option Ch :=
  (bits_RotateLeft32.f x.1 5).bind fun r => (sha1_mixed.f t x.2.1 x.2.2.1 x.2.2.2.1).bind fun m => (bits_RotateLeft32.f x.2.1 30).bind fun q => some ((r + m + x.2.2.2.2 + w) % 4294967296, x.1, q, x.2.2.1, x.2.2.2.1)
def sha1_Back.f (x : Ch) (t w : Int) : Option Ch :=
  (bits_RotateLeft32.f x.2.2.1 2).bind fun b => (bits_RotateLeft32.f x.2.1 5).bind fun r => (sha1_mixed.f t b x.2.2.2.1 x.2.2.2.2).bind fun m => some (x.2.1, b, x.2.2.2.1, x.2.2.2.2, IntKind.u32.wrap (IntKind.u32.wrap (IntKind.u32.wrap (x.1 - r) - m) - w))
def diptychref02_Step.f (x : Ch) (t w : Int) : Option Ch :=
  (diptychref02_Rot.f x.1 5).bind fun r => (diptychref02_Mix.f t x.2.1 x.2.2.1 x.2.2.2.1).bind fun m => (diptychref02_Rot.f x.2.1 30).bind fun q => some (IntKind.u32.wrap (IntKind.u32.wrap (IntKind.u32.wrap (r + m) + x.2.2.2.2) + w), x.1, q, x.2.2.1, x.2.2.2.1)
def diptychref02_Back.f (x : Ch) (t w : Int) : Option Ch :=
  (diptychref02_Rot.f x.2.2.1 2).bind fun b => (diptychref02_Step.f (x.2.1, b, x.2.2.2.1, x.2.2.2.2, 0) t w).bind fun n => some (x.2.1, b, x.2.2.2.1, x.2.2.2.2, (x.1 - n.1) % 4294967296)
set_option maxHeartbeats 4000000 in
set_option maxRecDepth 100000 in
theorem sha1_Step.calls (a0 a1 a2 a3 a4 t wd : Int) (r : Ch) (w : World) (h : sha1_Step.f (a0, a1, a2, a3, a4) t wd = some r) : Calls Tryz.prog 63 #[chV (a0, a1, a2, a3, a4), .int .i64 t, .int .u32 wd] w fun e w' => e = .returned (chV r) ∧ Below w.heap.size w w' := by
  unfold sha1_Step.f at h
  obtain ⟨ra, h1, ha⟩ := Option.bind_eq_some_iff.mp h
  obtain ⟨mm, h2, hb⟩ := Option.bind_eq_some_iff.mp ha
  obtain ⟨qq, h3, hc⟩ := Option.bind_eq_some_iff.mp hb
  obtain rfl := Option.some.inj hc
  have H1 := Lib.hid h1
  have H2 := Lib.hid h2
  have H3 := Lib.hid h3
  clear h ha hb hc h1 h2 h3
  go_enter Tryz.func63, Tryz.ntmps63
  go_wp2_with (first | ((with_reducible refine gate_dst (N := 3) rfl ?_); refine box_event ?hg (N := 3) ?hd (cs := #[.int .u32 a0, .int .u32 a1, .int .u32 a2, .int .u32 a3, .int .u32 a4]) (t := 69) ?hr ?_; (case hd => rfl); (case hg => rfl); (case hr => first | (go_simp; done) | (go_simp; rfl)); intro gx egx w0 kgx_0 hb0; have Egx := Lib.hid egx; clear egx; have Ggx := Lib.hid (Nat.le_trans (Nat.le_refl _) (Nat.le_of_eq Egx.out.symm)); have HB_0 := Lib.hid (hb0); have cgx_0 : w0.cell? ⟨gx, 0, none⟩ = some (.int .u32 a0) := (blk_cell kgx_0 0).trans rfl; have cgx_1 : w0.cell? ⟨gx, 1, none⟩ = some (.int .u32 a1) := (blk_cell kgx_0 1).trans rfl; have cgx_2 : w0.cell? ⟨gx, 2, none⟩ = some (.int .u32 a2) := (blk_cell kgx_0 2).trans rfl; have cgx_3 : w0.cell? ⟨gx, 3, none⟩ = some (.int .u32 a3) := (blk_cell kgx_0 3).trans rfl; have cgx_4 : w0.cell? ⟨gx, 4, none⟩ = some (.int .u32 a4) := (blk_cell kgx_0 4).trans rfl; have fgx_0 := blk_frozen kgx_0 0; have fgx_1 := blk_frozen kgx_0 1; have fgx_2 := blk_frozen kgx_0 2; have fgx_3 := blk_frozen kgx_0 3; have fgx_4 := blk_frozen kgx_0 4) | ((with_reducible refine gate_dst (N := 6) rfl ?_); refine box_event ?hg (N := 6) ?hd (cs := #[.int .u32 0, .int .u32 0, .int .u32 0, .int .u32 0, .int .u32 0]) (t := 69) ?hr ?_; (case hd => rfl); (case hg => rfl); (case hr => first | (go_simp; done) | (go_simp; rfl)); intro gr egr w1 kgr_1 hb1; have Egr := Lib.hid egr; clear egr; have Ggr := Lib.hid (Nat.le_trans (below_size (by first | exact HB_0.out | exact pw_below_drewN HB_0.out _ | exact below_drew HB_0.out : Below w.heap.size w _)) (Nat.le_of_eq Egr.out.symm)); have ngx_gr := Nat.ne_of_lt (Nat.lt_of_lt_of_le (blk_lt (by first | exact kgx_0 | exact blk_drewN kgx_0 _ | exact blk_drew kgx_0)) (Nat.le_of_eq Egr.out.symm)); have ngr_gx := ngx_gr.symm; have kgx_1 := blk_below (by first | exact kgx_0 | exact blk_drewN (kgx_0) _ | exact blk_drew (kgx_0)) hb1; have HB_1 := Lib.hid (below_step (by first | exact HB_0.out | exact pw_below_drewN (HB_0.out) _ | exact below_drew (HB_0.out)) hb1); clear cgx_0 fgx_0 cgx_1 fgx_1 cgx_2 fgx_2 cgx_3 fgx_3 cgx_4 fgx_4; have cgx_0 : w1.cell? ⟨gx, 0, none⟩ = some (.int .u32 a0) := (blk_cell kgx_1 0).trans rfl; have cgx_1 : w1.cell? ⟨gx, 1, none⟩ = some (.int .u32 a1) := (blk_cell kgx_1 1).trans rfl; have cgx_2 : w1.cell? ⟨gx, 2, none⟩ = some (.int .u32 a2) := (blk_cell kgx_1 2).trans rfl; have cgx_3 : w1.cell? ⟨gx, 3, none⟩ = some (.int .u32 a3) := (blk_cell kgx_1 3).trans rfl; have cgx_4 : w1.cell? ⟨gx, 4, none⟩ = some (.int .u32 a4) := (blk_cell kgx_1 4).trans rfl; have fgx_0 := blk_frozen kgx_1 0; have fgx_1 := blk_frozen kgx_1 1; have fgx_2 := blk_frozen kgx_1 2; have fgx_3 := blk_frozen kgx_1 3; have fgx_4 := blk_frozen kgx_1 4; have cgr_0 : w1.cell? ⟨gr, 0, none⟩ = some (.int .u32 0) := (blk_cell kgr_1 0).trans rfl; have cgr_1 : w1.cell? ⟨gr, 1, none⟩ = some (.int .u32 0) := (blk_cell kgr_1 1).trans rfl; have cgr_2 : w1.cell? ⟨gr, 2, none⟩ = some (.int .u32 0) := (blk_cell kgr_1 2).trans rfl; have cgr_3 : w1.cell? ⟨gr, 3, none⟩ = some (.int .u32 0) := (blk_cell kgr_1 3).trans rfl; have cgr_4 : w1.cell? ⟨gr, 4, none⟩ = some (.int .u32 0) := (blk_cell kgr_1 4).trans rfl; have fgr_0 := blk_frozen kgr_1 0; have fgr_1 := blk_frozen kgr_1 1; have fgr_2 := blk_frozen kgr_1 2; have fgr_3 := blk_frozen kgr_1 3; have fgr_4 := blk_frozen kgr_1 4))
  repeat (go_quiet (fail))
  go_wp2_with (first | (go_at_call 61; with_reducible refine (bits_RotateLeft32.calls a0 5 _ _ H1.out).mono ?_; rintro e w2 ⟨rfl, hq2⟩; have hb2 := hq2.below; have kgx_2 := blk_below (by first | exact kgx_1 | exact blk_drewN (kgx_1) _ | exact blk_drew (kgx_1)) hb2; have kgr_2 := blk_below (by first | exact kgr_1 | exact blk_drewN (kgr_1) _ | exact blk_drew (kgr_1)) hb2; have HB_2 := Lib.hid (below_step (by first | exact HB_1.out | exact pw_below_drewN (HB_1.out) _ | exact below_drew (HB_1.out)) hb2); clear hq2 cgx_0 fgx_0 cgx_1 fgx_1 cgx_2 fgx_2 cgx_3 fgx_3 cgx_4 fgx_4 cgr_0 fgr_0 cgr_1 fgr_1 cgr_2 fgr_2 cgr_3 fgr_3 cgr_4 fgr_4; have cgx_0 : w2.cell? ⟨gx, 0, none⟩ = some (.int .u32 a0) := (blk_cell kgx_2 0).trans rfl; have cgx_1 : w2.cell? ⟨gx, 1, none⟩ = some (.int .u32 a1) := (blk_cell kgx_2 1).trans rfl; have cgx_2 : w2.cell? ⟨gx, 2, none⟩ = some (.int .u32 a2) := (blk_cell kgx_2 2).trans rfl; have cgx_3 : w2.cell? ⟨gx, 3, none⟩ = some (.int .u32 a3) := (blk_cell kgx_2 3).trans rfl; have cgx_4 : w2.cell? ⟨gx, 4, none⟩ = some (.int .u32 a4) := (blk_cell kgx_2 4).trans rfl; have fgx_0 := blk_frozen kgx_2 0; have fgx_1 := blk_frozen kgx_2 1; have fgx_2 := blk_frozen kgx_2 2; have fgx_3 := blk_frozen kgx_2 3; have fgx_4 := blk_frozen kgx_2 4; have cgr_0 : w2.cell? ⟨gr, 0, none⟩ = some (.int .u32 0) := (blk_cell kgr_2 0).trans rfl; have cgr_1 : w2.cell? ⟨gr, 1, none⟩ = some (.int .u32 0) := (blk_cell kgr_2 1).trans rfl; have cgr_2 : w2.cell? ⟨gr, 2, none⟩ = some (.int .u32 0) := (blk_cell kgr_2 2).trans rfl; have cgr_3 : w2.cell? ⟨gr, 3, none⟩ = some (.int .u32 0) := (blk_cell kgr_2 3).trans rfl; have cgr_4 : w2.cell? ⟨gr, 4, none⟩ = some (.int .u32 0) := (blk_cell kgr_2 4).trans rfl; have fgr_0 := blk_frozen kgr_2 0; have fgr_1 := blk_frozen kgr_2 1; have fgr_2 := blk_frozen kgr_2 2; have fgr_3 := blk_frozen kgr_2 3; have fgr_4 := blk_frozen kgr_2 4) | (go_at_call 82; with_reducible refine (sha1_mixed.calls t a1 a2 a3 _ _ H2.out).mono ?_; rintro e w3 ⟨rfl, hq3⟩; have hb3 := hq3; have kgx_3 := blk_below (by first | exact kgx_2 | exact blk_drewN (kgx_2) _ | exact blk_drew (kgx_2)) hb3; have kgr_3 := blk_below (by first | exact kgr_2 | exact blk_drewN (kgr_2) _ | exact blk_drew (kgr_2)) hb3; have HB_3 := Lib.hid (below_step (by first | exact HB_2.out | exact pw_below_drewN (HB_2.out) _ | exact below_drew (HB_2.out)) hb3); clear hq3 cgx_0 fgx_0 cgx_1 fgx_1 cgx_2 fgx_2 cgx_3 fgx_3 cgx_4 fgx_4 cgr_0 fgr_0 cgr_1 fgr_1 cgr_2 fgr_2 cgr_3 fgr_3 cgr_4 fgr_4; have cgx_0 : w3.cell? ⟨gx, 0, none⟩ = some (.int .u32 a0) := (blk_cell kgx_3 0).trans rfl; have cgx_1 : w3.cell? ⟨gx, 1, none⟩ = some (.int .u32 a1) := (blk_cell kgx_3 1).trans rfl; have cgx_2 : w3.cell? ⟨gx, 2, none⟩ = some (.int .u32 a2) := (blk_cell kgx_3 2).trans rfl; have cgx_3 : w3.cell? ⟨gx, 3, none⟩ = some (.int .u32 a3) := (blk_cell kgx_3 3).trans rfl; have cgx_4 : w3.cell? ⟨gx, 4, none⟩ = some (.int .u32 a4) := (blk_cell kgx_3 4).trans rfl; have fgx_0 := blk_frozen kgx_3 0; have fgx_1 := blk_frozen kgx_3 1; have fgx_2 := blk_frozen kgx_3 2; have fgx_3 := blk_frozen kgx_3 3; have fgx_4 := blk_frozen kgx_3 4; have cgr_0 : w3.cell? ⟨gr, 0, none⟩ = some (.int .u32 0) := (blk_cell kgr_3 0).trans rfl; have cgr_1 : w3.cell? ⟨gr, 1, none⟩ = some (.int .u32 0) := (blk_cell kgr_3 1).trans rfl; have cgr_2 : w3.cell? ⟨gr, 2, none⟩ = some (.int .u32 0) := (blk_cell kgr_3 2).trans rfl; have cgr_3 : w3.cell? ⟨gr, 3, none⟩ = some (.int .u32 0) := (blk_cell kgr_3 3).trans rfl; have cgr_4 : w3.cell? ⟨gr, 4, none⟩ = some (.int .u32 0) := (blk_cell kgr_3 4).trans rfl; have fgr_0 := blk_frozen kgr_3 0; have fgr_1 := blk_frozen kgr_3 1; have fgr_2 := blk_frozen kgr_3 2; have fgr_3 := blk_frozen kgr_3 3; have fgr_4 := blk_frozen kgr_3 4) | (go_at_call 61; with_reducible refine (bits_RotateLeft32.calls a1 30 _ _ H3.out).mono ?_; rintro e w4 ⟨rfl, hq4⟩; have hb4 := hq4.below; have kgx_4 := blk_below (by first | exact kgx_3 | exact blk_drewN (kgx_3) _ | exact blk_drew (kgx_3)) hb4; have kgr_4 := blk_below (by first | exact kgr_3 | exact blk_drewN (kgr_3) _ | exact blk_drew (kgr_3)) hb4; have HB_4 := Lib.hid (below_step (by first | exact HB_3.out | exact pw_below_drewN (HB_3.out) _ | exact below_drew (HB_3.out)) hb4); clear hq4 cgx_0 fgx_0 cgx_1 fgx_1 cgx_2 fgx_2 cgx_3 fgx_3 cgx_4 fgx_4 cgr_0 fgr_0 cgr_1 fgr_1 cgr_2 fgr_2 cgr_3 fgr_3 cgr_4 fgr_4; have cgx_0 : w4.cell? ⟨gx, 0, none⟩ = some (.int .u32 a0) := (blk_cell kgx_4 0).trans rfl; have cgx_1 : w4.cell? ⟨gx, 1, none⟩ = some (.int .u32 a1) := (blk_cell kgx_4 1).trans rfl; have cgx_2 : w4.cell? ⟨gx, 2, none⟩ = some (.int .u32 a2) := (blk_cell kgx_4 2).trans rfl; have cgx_3 : w4.cell? ⟨gx, 3, none⟩ = some (.int .u32 a3) := (blk_cell kgx_4 3).trans rfl; have cgx_4 : w4.cell? ⟨gx, 4, none⟩ = some (.int .u32 a4) := (blk_cell kgx_4 4).trans rfl; have fgx_0 := blk_frozen kgx_4 0; have fgx_1 := blk_frozen kgx_4 1; have fgx_2 := blk_frozen kgx_4 2; have fgx_3 := blk_frozen kgx_4 3; have fgx_4 := blk_frozen kgx_4 4; have cgr_0 : w4.cell? ⟨gr, 0, none⟩ = some (.int .u32 0) := (blk_cell kgr_4 0).trans rfl; have cgr_1 : w4.cell? ⟨gr, 1, none⟩ = some (.int .u32 0) := (blk_cell kgr_4 1).trans rfl; have cgr_2 : w4.cell? ⟨gr, 2, none⟩ = some (.int .u32 0) := (blk_cell kgr_4 2).trans rfl; have cgr_3 : w4.cell? ⟨gr, 3, none⟩ = some (.int .u32 0) := (blk_cell kgr_4 3).trans rfl; have cgr_4 : w4.cell? ⟨gr, 4, none⟩ = some (.int .u32 0) := (blk_cell kgr_4 4).trans rfl; have fgr_0 := blk_frozen kgr_4 0; have fgr_1 := blk_frozen kgr_4 1; have fgr_2 := blk_frozen kgr_4 2; have fgr_3 := blk_frozen kgr_4 3; have fgr_4 := blk_frozen kgr_4 4))
  have kR := blk_set (blk_set (blk_set (blk_set (blk_set (kgr_4) 0 (.int .u32 ((ra + mm + a4 + wd) % 4294967296))) 1 (.int .u32 a0)) 2 (.int .u32 qq)) 3 (.int .u32 a2)) 4 (.int .u32 a3)
  refine bodyPost_ret (results_c rfl _ _ gr 69 #[.int .u32 ((ra + mm + a4 + wd) % 4294967296), .int .u32 a0, .int .u32 qq, .int .u32 a2, .int .u32 a3] (0, 0) _ rfl ?hblk Tryz.underlying69 rfl rfl) rfl ?_
  case hblk => first | exact kR | exact blk_drewN kR _ | exact blk_drew kR
  exact ⟨rfl, by first | exact Below.setCell (Below.setCell (Below.setCell (Below.setCell (Below.setCell (HB_4.out) Ggr.out _) Ggr.out _) Ggr.out _) Ggr.out _) Ggr.out _ | exact pw_below_drewN (Below.setCell (Below.setCell (Below.setCell (Below.setCell (Below.setCell (HB_4.out) Ggr.out _) Ggr.out _) Ggr.out _) Ggr.out _) Ggr.out _) _ | exact below_drew (Below.setCell (Below.setCell (Below.setCell (Below.setCell (Below.setCell (HB_4.out) Ggr.out _) Ggr.out _) Ggr.out _) Ggr.out _) Ggr.out _)⟩
set_option maxHeartbeats 4000000 in
set_option maxRecDepth 100000 in
theorem sha1_Back.calls (a0 a1 a2 a3 a4 t wd : Int) (r : Ch) (w : World) (h : sha1_Back.f (a0, a1, a2, a3, a4) t wd = some r) : Calls Tryz.prog 64 #[chV (a0, a1, a2, a3, a4), .int .i64 t, .int .u32 wd] w fun e w' => e = .returned (chV r) ∧ Below w.heap.size w w' := by
  unfold sha1_Back.f at h
  obtain ⟨bb, h1, ha⟩ := Option.bind_eq_some_iff.mp h
  obtain ⟨ra, h2, hb⟩ := Option.bind_eq_some_iff.mp ha
  obtain ⟨mm, h3, hc⟩ := Option.bind_eq_some_iff.mp hb
  obtain rfl := Option.some.inj hc
  have H1 := Lib.hid h1
  have H2 := Lib.hid h2
  have H3 := Lib.hid h3
  clear h ha hb hc h1 h2 h3
  go_enter Tryz.func64, Tryz.ntmps64
  go_wp2_with (first | ((with_reducible refine gate_dst (N := 3) rfl ?_); refine box_event ?hg (N := 3) ?hd (cs := #[.int .u32 a0, .int .u32 a1, .int .u32 a2, .int .u32 a3, .int .u32 a4]) (t := 69) ?hr ?_; (case hd => rfl); (case hg => rfl); (case hr => first | (go_simp; done) | (go_simp; rfl)); intro gx egx w0 kgx_0 hb0; have Egx := Lib.hid egx; clear egx; have Ggx := Lib.hid (Nat.le_trans (Nat.le_refl _) (Nat.le_of_eq Egx.out.symm)); have HB_0 := Lib.hid (hb0); have cgx_0 : w0.cell? ⟨gx, 0, none⟩ = some (.int .u32 a0) := (blk_cell kgx_0 0).trans rfl; have cgx_1 : w0.cell? ⟨gx, 1, none⟩ = some (.int .u32 a1) := (blk_cell kgx_0 1).trans rfl; have cgx_2 : w0.cell? ⟨gx, 2, none⟩ = some (.int .u32 a2) := (blk_cell kgx_0 2).trans rfl; have cgx_3 : w0.cell? ⟨gx, 3, none⟩ = some (.int .u32 a3) := (blk_cell kgx_0 3).trans rfl; have cgx_4 : w0.cell? ⟨gx, 4, none⟩ = some (.int .u32 a4) := (blk_cell kgx_0 4).trans rfl; have fgx_0 := blk_frozen kgx_0 0; have fgx_1 := blk_frozen kgx_0 1; have fgx_2 := blk_frozen kgx_0 2; have fgx_3 := blk_frozen kgx_0 3; have fgx_4 := blk_frozen kgx_0 4) | ((with_reducible refine gate_dst (N := 6) rfl ?_); refine box_event ?hg (N := 6) ?hd (cs := #[.int .u32 0, .int .u32 0, .int .u32 0, .int .u32 0, .int .u32 0]) (t := 69) ?hr ?_; (case hd => rfl); (case hg => rfl); (case hr => first | (go_simp; done) | (go_simp; rfl)); intro gr egr w1 kgr_1 hb1; have Egr := Lib.hid egr; clear egr; have Ggr := Lib.hid (Nat.le_trans (below_size (by first | exact HB_0.out | exact pw_below_drewN HB_0.out _ | exact below_drew HB_0.out : Below w.heap.size w _)) (Nat.le_of_eq Egr.out.symm)); have ngx_gr := Nat.ne_of_lt (Nat.lt_of_lt_of_le (blk_lt (by first | exact kgx_0 | exact blk_drewN kgx_0 _ | exact blk_drew kgx_0)) (Nat.le_of_eq Egr.out.symm)); have ngr_gx := ngx_gr.symm; have kgx_1 := blk_below (by first | exact kgx_0 | exact blk_drewN (kgx_0) _ | exact blk_drew (kgx_0)) hb1; have HB_1 := Lib.hid (below_step (by first | exact HB_0.out | exact pw_below_drewN (HB_0.out) _ | exact below_drew (HB_0.out)) hb1); clear cgx_0 fgx_0 cgx_1 fgx_1 cgx_2 fgx_2 cgx_3 fgx_3 cgx_4 fgx_4; have cgx_0 : w1.cell? ⟨gx, 0, none⟩ = some (.int .u32 a0) := (blk_cell kgx_1 0).trans rfl; have cgx_1 : w1.cell? ⟨gx, 1, none⟩ = some (.int .u32 a1) := (blk_cell kgx_1 1).trans rfl; have cgx_2 : w1.cell? ⟨gx, 2, none⟩ = some (.int .u32 a2) := (blk_cell kgx_1 2).trans rfl; have cgx_3 : w1.cell? ⟨gx, 3, none⟩ = some (.int .u32 a3) := (blk_cell kgx_1 3).trans rfl; have cgx_4 : w1.cell? ⟨gx, 4, none⟩ = some (.int .u32 a4) := (blk_cell kgx_1 4).trans rfl; have fgx_0 := blk_frozen kgx_1 0; have fgx_1 := blk_frozen kgx_1 1; have fgx_2 := blk_frozen kgx_1 2; have fgx_3 := blk_frozen kgx_1 3; have fgx_4 := blk_frozen kgx_1 4; have cgr_0 : w1.cell? ⟨gr, 0, none⟩ = some (.int .u32 0) := (blk_cell kgr_1 0).trans rfl; have cgr_1 : w1.cell? ⟨gr, 1, none⟩ = some (.int .u32 0) := (blk_cell kgr_1 1).trans rfl; have cgr_2 : w1.cell? ⟨gr, 2, none⟩ = some (.int .u32 0) := (blk_cell kgr_1 2).trans rfl; have cgr_3 : w1.cell? ⟨gr, 3, none⟩ = some (.int .u32 0) := (blk_cell kgr_1 3).trans rfl; have cgr_4 : w1.cell? ⟨gr, 4, none⟩ = some (.int .u32 0) := (blk_cell kgr_1 4).trans rfl; have fgr_0 := blk_frozen kgr_1 0; have fgr_1 := blk_frozen kgr_1 1; have fgr_2 := blk_frozen kgr_1 2; have fgr_3 := blk_frozen kgr_1 3; have fgr_4 := blk_frozen kgr_1 4))
  go_region_held3 (fun W => W.cell? ⟨gx, 1, none⟩ = some (.int .u32 a1) ∧ W.cell? ⟨gx, 2, none⟩ = some (.int .u32 a2) ∧ W.cell? ⟨gx, 3, none⟩ = some (.int .u32 a3) ∧ W.cell? ⟨gx, 4, none⟩ = some (.int .u32 a4)) (first | (with_reducible exact ⟨cgx_1, cgx_2, cgx_3, cgx_4⟩) | go_keep) (first | (go_at_call 61; with_reducible refine (bits_RotateLeft32.calls a2 2 _ _ H1.out).mono ?_; rintro e w2 ⟨rfl, hq2⟩; have hb2 := hq2.below; have kgx_2 := blk_below (by first | exact kgx_1 | exact blk_drewN (kgx_1) _ | exact blk_drew (kgx_1)) hb2; have kgr_2 := blk_below (by first | exact kgr_1 | exact blk_drewN (kgr_1) _ | exact blk_drew (kgr_1)) hb2; have HB_2 := Lib.hid (below_step (by first | exact HB_1.out | exact pw_below_drewN (HB_1.out) _ | exact below_drew (HB_1.out)) hb2); clear hq2 cgx_0 fgx_0 cgx_1 fgx_1 cgx_2 fgx_2 cgx_3 fgx_3 cgx_4 fgx_4 cgr_0 fgr_0 cgr_1 fgr_1 cgr_2 fgr_2 cgr_3 fgr_3 cgr_4 fgr_4; have cgx_0 : w2.cell? ⟨gx, 0, none⟩ = some (.int .u32 a0) := (blk_cell kgx_2 0).trans rfl; have cgx_1 : w2.cell? ⟨gx, 1, none⟩ = some (.int .u32 a1) := (blk_cell kgx_2 1).trans rfl; have cgx_2 : w2.cell? ⟨gx, 2, none⟩ = some (.int .u32 a2) := (blk_cell kgx_2 2).trans rfl; have cgx_3 : w2.cell? ⟨gx, 3, none⟩ = some (.int .u32 a3) := (blk_cell kgx_2 3).trans rfl; have cgx_4 : w2.cell? ⟨gx, 4, none⟩ = some (.int .u32 a4) := (blk_cell kgx_2 4).trans rfl; have fgx_0 := blk_frozen kgx_2 0; have fgx_1 := blk_frozen kgx_2 1; have fgx_2 := blk_frozen kgx_2 2; have fgx_3 := blk_frozen kgx_2 3; have fgx_4 := blk_frozen kgx_2 4; have cgr_0 : w2.cell? ⟨gr, 0, none⟩ = some (.int .u32 0) := (blk_cell kgr_2 0).trans rfl; have cgr_1 : w2.cell? ⟨gr, 1, none⟩ = some (.int .u32 0) := (blk_cell kgr_2 1).trans rfl; have cgr_2 : w2.cell? ⟨gr, 2, none⟩ = some (.int .u32 0) := (blk_cell kgr_2 2).trans rfl; have cgr_3 : w2.cell? ⟨gr, 3, none⟩ = some (.int .u32 0) := (blk_cell kgr_2 3).trans rfl; have cgr_4 : w2.cell? ⟨gr, 4, none⟩ = some (.int .u32 0) := (blk_cell kgr_2 4).trans rfl; have fgr_0 := blk_frozen kgr_2 0; have fgr_1 := blk_frozen kgr_2 1; have fgr_2 := blk_frozen kgr_2 2; have fgr_3 := blk_frozen kgr_2 3; have fgr_4 := blk_frozen kgr_2 4))
  all_goals (try simp only [Exit.then])
  go_wp2_with (fail)
  go_region_held3 (fun W => W.cell? ⟨gx, 0, none⟩ = some (.int .u32 a0)) (first | (with_reducible exact cgx_0) | go_keep) (first | (go_at_call 61; with_reducible refine (bits_RotateLeft32.calls a1 5 _ _ H2.out).mono ?_; rintro e w3 ⟨rfl, hq3⟩; have hb3 := hq3.below; have kgx_3 := blk_below (by first | exact kgx_2 | exact blk_drewN (kgx_2) _ | exact blk_drew (kgx_2)) hb3; have kgr_3 := blk_below (by first | exact kgr_2 | exact blk_drewN (kgr_2) _ | exact blk_drew (kgr_2)) hb3; have HB_3 := Lib.hid (below_step (by first | exact HB_2.out | exact pw_below_drewN (HB_2.out) _ | exact below_drew (HB_2.out)) hb3); clear hq3 cgx_0 fgx_0 cgx_1 fgx_1 cgx_2 fgx_2 cgx_3 fgx_3 cgx_4 fgx_4 cgr_0 fgr_0 cgr_1 fgr_1 cgr_2 fgr_2 cgr_3 fgr_3 cgr_4 fgr_4; have cgx_0 : w3.cell? ⟨gx, 0, none⟩ = some (.int .u32 a0) := (blk_cell kgx_3 0).trans rfl; have cgx_1 : w3.cell? ⟨gx, 1, none⟩ = some (.int .u32 a1) := (blk_cell kgx_3 1).trans rfl; have cgx_2 : w3.cell? ⟨gx, 2, none⟩ = some (.int .u32 a2) := (blk_cell kgx_3 2).trans rfl; have cgx_3 : w3.cell? ⟨gx, 3, none⟩ = some (.int .u32 a3) := (blk_cell kgx_3 3).trans rfl; have cgx_4 : w3.cell? ⟨gx, 4, none⟩ = some (.int .u32 a4) := (blk_cell kgx_3 4).trans rfl; have fgx_0 := blk_frozen kgx_3 0; have fgx_1 := blk_frozen kgx_3 1; have fgx_2 := blk_frozen kgx_3 2; have fgx_3 := blk_frozen kgx_3 3; have fgx_4 := blk_frozen kgx_3 4; have cgr_0 : w3.cell? ⟨gr, 0, none⟩ = some (.int .u32 0) := (blk_cell kgr_3 0).trans rfl; have cgr_1 : w3.cell? ⟨gr, 1, none⟩ = some (.int .u32 0) := (blk_cell kgr_3 1).trans rfl; have cgr_2 : w3.cell? ⟨gr, 2, none⟩ = some (.int .u32 0) := (blk_cell kgr_3 2).trans rfl; have cgr_3 : w3.cell? ⟨gr, 3, none⟩ = some (.int .u32 0) := (blk_cell kgr_3 3).trans rfl; have cgr_4 : w3.cell? ⟨gr, 4, none⟩ = some (.int .u32 0) := (blk_cell kgr_3 4).trans rfl; have fgr_0 := blk_frozen kgr_3 0; have fgr_1 := blk_frozen kgr_3 1; have fgr_2 := blk_frozen kgr_3 2; have fgr_3 := blk_frozen kgr_3 3; have fgr_4 := blk_frozen kgr_3 4) | (go_at_call 82; with_reducible refine (sha1_mixed.calls t bb a3 a4 _ _ H3.out).mono ?_; rintro e w4 ⟨rfl, hq4⟩; have hb4 := hq4; have kgx_4 := blk_below (by first | exact kgx_3 | exact blk_drewN (kgx_3) _ | exact blk_drew (kgx_3)) hb4; have kgr_4 := blk_below (by first | exact kgr_3 | exact blk_drewN (kgr_3) _ | exact blk_drew (kgr_3)) hb4; have HB_4 := Lib.hid (below_step (by first | exact HB_3.out | exact pw_below_drewN (HB_3.out) _ | exact below_drew (HB_3.out)) hb4); clear hq4 cgx_0 fgx_0 cgx_1 fgx_1 cgx_2 fgx_2 cgx_3 fgx_3 cgx_4 fgx_4 cgr_0 fgr_0 cgr_1 fgr_1 cgr_2 fgr_2 cgr_3 fgr_3 cgr_4 fgr_4; have cgx_0 : w4.cell? ⟨gx, 0, none⟩ = some (.int .u32 a0) := (blk_cell kgx_4 0).trans rfl; have cgx_1 : w4.cell? ⟨gx, 1, none⟩ = some (.int .u32 a1) := (blk_cell kgx_4 1).trans rfl; have cgx_2 : w4.cell? ⟨gx, 2, none⟩ = some (.int .u32 a2) := (blk_cell kgx_4 2).trans rfl; have cgx_3 : w4.cell? ⟨gx, 3, none⟩ = some (.int .u32 a3) := (blk_cell kgx_4 3).trans rfl; have cgx_4 : w4.cell? ⟨gx, 4, none⟩ = some (.int .u32 a4) := (blk_cell kgx_4 4).trans rfl; have fgx_0 := blk_frozen kgx_4 0; have fgx_1 := blk_frozen kgx_4 1; have fgx_2 := blk_frozen kgx_4 2; have fgx_3 := blk_frozen kgx_4 3; have fgx_4 := blk_frozen kgx_4 4; have cgr_0 : w4.cell? ⟨gr, 0, none⟩ = some (.int .u32 0) := (blk_cell kgr_4 0).trans rfl; have cgr_1 : w4.cell? ⟨gr, 1, none⟩ = some (.int .u32 0) := (blk_cell kgr_4 1).trans rfl; have cgr_2 : w4.cell? ⟨gr, 2, none⟩ = some (.int .u32 0) := (blk_cell kgr_4 2).trans rfl; have cgr_3 : w4.cell? ⟨gr, 3, none⟩ = some (.int .u32 0) := (blk_cell kgr_4 3).trans rfl; have cgr_4 : w4.cell? ⟨gr, 4, none⟩ = some (.int .u32 0) := (blk_cell kgr_4 4).trans rfl; have fgr_0 := blk_frozen kgr_4 0; have fgr_1 := blk_frozen kgr_4 1; have fgr_2 := blk_frozen kgr_4 2; have fgr_3 := blk_frozen kgr_4 3; have fgr_4 := blk_frozen kgr_4 4))
  all_goals (try simp only [Exit.then])
  go_wp2_with (fail)
  have kR := blk_set (blk_set (blk_set (blk_set (blk_set (kgr_4) 0 (.int .u32 a1)) 1 (.int .u32 bb)) 2 (.int .u32 a3)) 3 (.int .u32 a4)) 4 (.int .u32 (IntKind.u32.wrap (IntKind.u32.wrap (IntKind.u32.wrap (a0 - ra) - mm) - wd)))
  refine bodyPost_ret (results_c rfl _ _ gr 69 #[.int .u32 a1, .int .u32 bb, .int .u32 a3, .int .u32 a4, .int .u32 (IntKind.u32.wrap (IntKind.u32.wrap (IntKind.u32.wrap (a0 - ra) - mm) - wd))] (0, 0) _ rfl ?hblk Tryz.underlying69 rfl rfl) rfl ?_
  case hblk => first | exact kR | exact blk_drewN kR _ | exact blk_drew kR
  exact ⟨rfl, by first | exact Below.setCell (Below.setCell (Below.setCell (Below.setCell (Below.setCell (HB_4.out) Ggr.out _) Ggr.out _) Ggr.out _) Ggr.out _) Ggr.out _ | exact pw_below_drewN (Below.setCell (Below.setCell (Below.setCell (Below.setCell (Below.setCell (HB_4.out) Ggr.out _) Ggr.out _) Ggr.out _) Ggr.out _) Ggr.out _) _ | exact below_drew (Below.setCell (Below.setCell (Below.setCell (Below.setCell (Below.setCell (HB_4.out) Ggr.out _) Ggr.out _) Ggr.out _) Ggr.out _) Ggr.out _)⟩
set_option maxHeartbeats 4000000 in
set_option maxRecDepth 100000 in
theorem diptychref02_Step.calls (a0 a1 a2 a3 a4 t wd : Int) (r : Ch) (w : World) (h : diptychref02_Step.f (a0, a1, a2, a3, a4) t wd = some r) : Calls Tryz.prog 71 #[chV (a0, a1, a2, a3, a4), .int .i64 t, .int .u32 wd] w fun e w' => e = .returned (chV r) ∧ Below w.heap.size w w' := by
  unfold diptychref02_Step.f at h
  obtain ⟨ra, h1, ha⟩ := Option.bind_eq_some_iff.mp h
  obtain ⟨mm, h2, hb⟩ := Option.bind_eq_some_iff.mp ha
  obtain ⟨qq, h3, hc⟩ := Option.bind_eq_some_iff.mp hb
  obtain rfl := Option.some.inj hc
  have H1 := Lib.hid h1
  have H2 := Lib.hid h2
  have H3 := Lib.hid h3
  clear h ha hb hc h1 h2 h3
  go_enter Tryz.func71, Tryz.ntmps71
  go_wp2_with (first | ((with_reducible refine gate_dst (N := 3) rfl ?_); refine box_event ?hg (N := 3) ?hd (cs := #[.int .u32 a0, .int .u32 a1, .int .u32 a2, .int .u32 a3, .int .u32 a4]) (t := 68) ?hr ?_; (case hd => rfl); (case hg => rfl); (case hr => first | (go_simp; done) | (go_simp; rfl)); intro gx egx w0 kgx_0 hb0; have Egx := Lib.hid egx; clear egx; have Ggx := Lib.hid (Nat.le_trans (Nat.le_refl _) (Nat.le_of_eq Egx.out.symm)); have HB_0 := Lib.hid (hb0); have cgx_0 : w0.cell? ⟨gx, 0, none⟩ = some (.int .u32 a0) := (blk_cell kgx_0 0).trans rfl; have cgx_1 : w0.cell? ⟨gx, 1, none⟩ = some (.int .u32 a1) := (blk_cell kgx_0 1).trans rfl; have cgx_2 : w0.cell? ⟨gx, 2, none⟩ = some (.int .u32 a2) := (blk_cell kgx_0 2).trans rfl; have cgx_3 : w0.cell? ⟨gx, 3, none⟩ = some (.int .u32 a3) := (blk_cell kgx_0 3).trans rfl; have cgx_4 : w0.cell? ⟨gx, 4, none⟩ = some (.int .u32 a4) := (blk_cell kgx_0 4).trans rfl; have fgx_0 := blk_frozen kgx_0 0; have fgx_1 := blk_frozen kgx_0 1; have fgx_2 := blk_frozen kgx_0 2; have fgx_3 := blk_frozen kgx_0 3; have fgx_4 := blk_frozen kgx_0 4) | ((with_reducible refine gate_dst (N := 6) rfl ?_); refine box_event ?hg (N := 6) ?hd (cs := #[.int .u32 0, .int .u32 0, .int .u32 0, .int .u32 0, .int .u32 0]) (t := 68) ?hr ?_; (case hd => rfl); (case hg => rfl); (case hr => first | (go_simp; done) | (go_simp; rfl)); intro gr egr w1 kgr_1 hb1; have Egr := Lib.hid egr; clear egr; have Ggr := Lib.hid (Nat.le_trans (below_size (by first | exact HB_0.out | exact pw_below_drewN HB_0.out _ | exact below_drew HB_0.out : Below w.heap.size w _)) (Nat.le_of_eq Egr.out.symm)); have ngx_gr := Nat.ne_of_lt (Nat.lt_of_lt_of_le (blk_lt (by first | exact kgx_0 | exact blk_drewN kgx_0 _ | exact blk_drew kgx_0)) (Nat.le_of_eq Egr.out.symm)); have ngr_gx := ngx_gr.symm; have kgx_1 := blk_below (by first | exact kgx_0 | exact blk_drewN (kgx_0) _ | exact blk_drew (kgx_0)) hb1; have HB_1 := Lib.hid (below_step (by first | exact HB_0.out | exact pw_below_drewN (HB_0.out) _ | exact below_drew (HB_0.out)) hb1); clear cgx_0 fgx_0 cgx_1 fgx_1 cgx_2 fgx_2 cgx_3 fgx_3 cgx_4 fgx_4; have cgx_0 : w1.cell? ⟨gx, 0, none⟩ = some (.int .u32 a0) := (blk_cell kgx_1 0).trans rfl; have cgx_1 : w1.cell? ⟨gx, 1, none⟩ = some (.int .u32 a1) := (blk_cell kgx_1 1).trans rfl; have cgx_2 : w1.cell? ⟨gx, 2, none⟩ = some (.int .u32 a2) := (blk_cell kgx_1 2).trans rfl; have cgx_3 : w1.cell? ⟨gx, 3, none⟩ = some (.int .u32 a3) := (blk_cell kgx_1 3).trans rfl; have cgx_4 : w1.cell? ⟨gx, 4, none⟩ = some (.int .u32 a4) := (blk_cell kgx_1 4).trans rfl; have fgx_0 := blk_frozen kgx_1 0; have fgx_1 := blk_frozen kgx_1 1; have fgx_2 := blk_frozen kgx_1 2; have fgx_3 := blk_frozen kgx_1 3; have fgx_4 := blk_frozen kgx_1 4; have cgr_0 : w1.cell? ⟨gr, 0, none⟩ = some (.int .u32 0) := (blk_cell kgr_1 0).trans rfl; have cgr_1 : w1.cell? ⟨gr, 1, none⟩ = some (.int .u32 0) := (blk_cell kgr_1 1).trans rfl; have cgr_2 : w1.cell? ⟨gr, 2, none⟩ = some (.int .u32 0) := (blk_cell kgr_1 2).trans rfl; have cgr_3 : w1.cell? ⟨gr, 3, none⟩ = some (.int .u32 0) := (blk_cell kgr_1 3).trans rfl; have cgr_4 : w1.cell? ⟨gr, 4, none⟩ = some (.int .u32 0) := (blk_cell kgr_1 4).trans rfl; have fgr_0 := blk_frozen kgr_1 0; have fgr_1 := blk_frozen kgr_1 1; have fgr_2 := blk_frozen kgr_1 2; have fgr_3 := blk_frozen kgr_1 3; have fgr_4 := blk_frozen kgr_1 4))
  go_region_held3 (fun W => W.cell? ⟨gx, 0, none⟩ = some (.int .u32 a0) ∧ W.cell? ⟨gx, 1, none⟩ = some (.int .u32 a1) ∧ W.cell? ⟨gx, 2, none⟩ = some (.int .u32 a2) ∧ W.cell? ⟨gx, 3, none⟩ = some (.int .u32 a3) ∧ W.cell? ⟨gx, 4, none⟩ = some (.int .u32 a4)) (first | (with_reducible exact ⟨cgx_0, cgx_1, cgx_2, cgx_3, cgx_4⟩) | go_keep) (first | (go_at_call 84; with_reducible refine (diptychref02_Rot.calls a0 5 _ _ H1.out).mono ?_; rintro e w2 ⟨rfl, hq2⟩; have hb2 := hq2.below; have kgx_2 := blk_below (by first | exact kgx_1 | exact blk_drewN (kgx_1) _ | exact blk_drew (kgx_1)) hb2; have kgr_2 := blk_below (by first | exact kgr_1 | exact blk_drewN (kgr_1) _ | exact blk_drew (kgr_1)) hb2; have HB_2 := Lib.hid (below_step (by first | exact HB_1.out | exact pw_below_drewN (HB_1.out) _ | exact below_drew (HB_1.out)) hb2); clear hq2 cgx_0 fgx_0 cgx_1 fgx_1 cgx_2 fgx_2 cgx_3 fgx_3 cgx_4 fgx_4 cgr_0 fgr_0 cgr_1 fgr_1 cgr_2 fgr_2 cgr_3 fgr_3 cgr_4 fgr_4; have cgx_0 : w2.cell? ⟨gx, 0, none⟩ = some (.int .u32 a0) := (blk_cell kgx_2 0).trans rfl; have cgx_1 : w2.cell? ⟨gx, 1, none⟩ = some (.int .u32 a1) := (blk_cell kgx_2 1).trans rfl; have cgx_2 : w2.cell? ⟨gx, 2, none⟩ = some (.int .u32 a2) := (blk_cell kgx_2 2).trans rfl; have cgx_3 : w2.cell? ⟨gx, 3, none⟩ = some (.int .u32 a3) := (blk_cell kgx_2 3).trans rfl; have cgx_4 : w2.cell? ⟨gx, 4, none⟩ = some (.int .u32 a4) := (blk_cell kgx_2 4).trans rfl; have fgx_0 := blk_frozen kgx_2 0; have fgx_1 := blk_frozen kgx_2 1; have fgx_2 := blk_frozen kgx_2 2; have fgx_3 := blk_frozen kgx_2 3; have fgx_4 := blk_frozen kgx_2 4; have cgr_0 : w2.cell? ⟨gr, 0, none⟩ = some (.int .u32 0) := (blk_cell kgr_2 0).trans rfl; have cgr_1 : w2.cell? ⟨gr, 1, none⟩ = some (.int .u32 0) := (blk_cell kgr_2 1).trans rfl; have cgr_2 : w2.cell? ⟨gr, 2, none⟩ = some (.int .u32 0) := (blk_cell kgr_2 2).trans rfl; have cgr_3 : w2.cell? ⟨gr, 3, none⟩ = some (.int .u32 0) := (blk_cell kgr_2 3).trans rfl; have cgr_4 : w2.cell? ⟨gr, 4, none⟩ = some (.int .u32 0) := (blk_cell kgr_2 4).trans rfl; have fgr_0 := blk_frozen kgr_2 0; have fgr_1 := blk_frozen kgr_2 1; have fgr_2 := blk_frozen kgr_2 2; have fgr_3 := blk_frozen kgr_2 3; have fgr_4 := blk_frozen kgr_2 4) | (go_at_call 85; with_reducible refine (diptychref02_Mix.calls t a1 a2 a3 _ _ H2.out).mono ?_; rintro e w3 ⟨rfl, hq3⟩; have hb3 := hq3.below; have kgx_3 := blk_below (by first | exact kgx_2 | exact blk_drewN (kgx_2) _ | exact blk_drew (kgx_2)) hb3; have kgr_3 := blk_below (by first | exact kgr_2 | exact blk_drewN (kgr_2) _ | exact blk_drew (kgr_2)) hb3; have HB_3 := Lib.hid (below_step (by first | exact HB_2.out | exact pw_below_drewN (HB_2.out) _ | exact below_drew (HB_2.out)) hb3); clear hq3 cgx_0 fgx_0 cgx_1 fgx_1 cgx_2 fgx_2 cgx_3 fgx_3 cgx_4 fgx_4 cgr_0 fgr_0 cgr_1 fgr_1 cgr_2 fgr_2 cgr_3 fgr_3 cgr_4 fgr_4; have cgx_0 : w3.cell? ⟨gx, 0, none⟩ = some (.int .u32 a0) := (blk_cell kgx_3 0).trans rfl; have cgx_1 : w3.cell? ⟨gx, 1, none⟩ = some (.int .u32 a1) := (blk_cell kgx_3 1).trans rfl; have cgx_2 : w3.cell? ⟨gx, 2, none⟩ = some (.int .u32 a2) := (blk_cell kgx_3 2).trans rfl; have cgx_3 : w3.cell? ⟨gx, 3, none⟩ = some (.int .u32 a3) := (blk_cell kgx_3 3).trans rfl; have cgx_4 : w3.cell? ⟨gx, 4, none⟩ = some (.int .u32 a4) := (blk_cell kgx_3 4).trans rfl; have fgx_0 := blk_frozen kgx_3 0; have fgx_1 := blk_frozen kgx_3 1; have fgx_2 := blk_frozen kgx_3 2; have fgx_3 := blk_frozen kgx_3 3; have fgx_4 := blk_frozen kgx_3 4; have cgr_0 : w3.cell? ⟨gr, 0, none⟩ = some (.int .u32 0) := (blk_cell kgr_3 0).trans rfl; have cgr_1 : w3.cell? ⟨gr, 1, none⟩ = some (.int .u32 0) := (blk_cell kgr_3 1).trans rfl; have cgr_2 : w3.cell? ⟨gr, 2, none⟩ = some (.int .u32 0) := (blk_cell kgr_3 2).trans rfl; have cgr_3 : w3.cell? ⟨gr, 3, none⟩ = some (.int .u32 0) := (blk_cell kgr_3 3).trans rfl; have cgr_4 : w3.cell? ⟨gr, 4, none⟩ = some (.int .u32 0) := (blk_cell kgr_3 4).trans rfl; have fgr_0 := blk_frozen kgr_3 0; have fgr_1 := blk_frozen kgr_3 1; have fgr_2 := blk_frozen kgr_3 2; have fgr_3 := blk_frozen kgr_3 3; have fgr_4 := blk_frozen kgr_3 4))
  all_goals (try simp only [Exit.then])
  go_wp2_with (fail)
  go_region_held3 (fun W => W.cell? ⟨gx, 0, none⟩ = some (.int .u32 a0) ∧ W.cell? ⟨gx, 1, none⟩ = some (.int .u32 a1) ∧ W.cell? ⟨gx, 2, none⟩ = some (.int .u32 a2) ∧ W.cell? ⟨gx, 3, none⟩ = some (.int .u32 a3)) (first | (with_reducible exact ⟨cgx_0, cgx_1, cgx_2, cgx_3⟩) | go_keep) (first | (go_at_call 84; with_reducible refine (diptychref02_Rot.calls a1 30 _ _ H3.out).mono ?_; rintro e w4 ⟨rfl, hq4⟩; have hb4 := hq4.below; have kgx_4 := blk_below (by first | exact kgx_3 | exact blk_drewN (kgx_3) _ | exact blk_drew (kgx_3)) hb4; have kgr_4 := blk_below (by first | exact kgr_3 | exact blk_drewN (kgr_3) _ | exact blk_drew (kgr_3)) hb4; have HB_4 := Lib.hid (below_step (by first | exact HB_3.out | exact pw_below_drewN (HB_3.out) _ | exact below_drew (HB_3.out)) hb4); clear hq4 cgx_0 fgx_0 cgx_1 fgx_1 cgx_2 fgx_2 cgx_3 fgx_3 cgx_4 fgx_4 cgr_0 fgr_0 cgr_1 fgr_1 cgr_2 fgr_2 cgr_3 fgr_3 cgr_4 fgr_4; have cgx_0 : w4.cell? ⟨gx, 0, none⟩ = some (.int .u32 a0) := (blk_cell kgx_4 0).trans rfl; have cgx_1 : w4.cell? ⟨gx, 1, none⟩ = some (.int .u32 a1) := (blk_cell kgx_4 1).trans rfl; have cgx_2 : w4.cell? ⟨gx, 2, none⟩ = some (.int .u32 a2) := (blk_cell kgx_4 2).trans rfl; have cgx_3 : w4.cell? ⟨gx, 3, none⟩ = some (.int .u32 a3) := (blk_cell kgx_4 3).trans rfl; have cgx_4 : w4.cell? ⟨gx, 4, none⟩ = some (.int .u32 a4) := (blk_cell kgx_4 4).trans rfl; have fgx_0 := blk_frozen kgx_4 0; have fgx_1 := blk_frozen kgx_4 1; have fgx_2 := blk_frozen kgx_4 2; have fgx_3 := blk_frozen kgx_4 3; have fgx_4 := blk_frozen kgx_4 4; have cgr_0 : w4.cell? ⟨gr, 0, none⟩ = some (.int .u32 0) := (blk_cell kgr_4 0).trans rfl; have cgr_1 : w4.cell? ⟨gr, 1, none⟩ = some (.int .u32 0) := (blk_cell kgr_4 1).trans rfl; have cgr_2 : w4.cell? ⟨gr, 2, none⟩ = some (.int .u32 0) := (blk_cell kgr_4 2).trans rfl; have cgr_3 : w4.cell? ⟨gr, 3, none⟩ = some (.int .u32 0) := (blk_cell kgr_4 3).trans rfl; have cgr_4 : w4.cell? ⟨gr, 4, none⟩ = some (.int .u32 0) := (blk_cell kgr_4 4).trans rfl; have fgr_0 := blk_frozen kgr_4 0; have fgr_1 := blk_frozen kgr_4 1; have fgr_2 := blk_frozen kgr_4 2; have fgr_3 := blk_frozen kgr_4 3; have fgr_4 := blk_frozen kgr_4 4))
  all_goals (try simp only [Exit.then])
  go_wp2_with (fail)
  have kR := blk_set (blk_set (blk_set (blk_set (blk_set (kgr_4) 0 (.int .u32 (IntKind.u32.wrap (IntKind.u32.wrap (IntKind.u32.wrap (ra + mm) + a4) + wd)))) 1 (.int .u32 a0)) 2 (.int .u32 qq)) 3 (.int .u32 a2)) 4 (.int .u32 a3)
  refine bodyPost_ret (results_c rfl _ _ gr 68 #[.int .u32 (IntKind.u32.wrap (IntKind.u32.wrap (IntKind.u32.wrap (ra + mm) + a4) + wd)), .int .u32 a0, .int .u32 qq, .int .u32 a2, .int .u32 a3] (0, 0) _ rfl ?hblk Tryz.underlying68 rfl rfl) rfl ?_
  case hblk => first | exact kR | exact blk_drewN kR _ | exact blk_drew kR
  exact ⟨rfl, by first | exact Below.setCell (Below.setCell (Below.setCell (Below.setCell (Below.setCell (HB_4.out) Ggr.out _) Ggr.out _) Ggr.out _) Ggr.out _) Ggr.out _ | exact pw_below_drewN (Below.setCell (Below.setCell (Below.setCell (Below.setCell (Below.setCell (HB_4.out) Ggr.out _) Ggr.out _) Ggr.out _) Ggr.out _) Ggr.out _) _ | exact below_drew (Below.setCell (Below.setCell (Below.setCell (Below.setCell (Below.setCell (HB_4.out) Ggr.out _) Ggr.out _) Ggr.out _) Ggr.out _) Ggr.out _)⟩
abbrev first : Ch := (1732584193, 4023233417, 2562383102, 271733878, 3285377520)
set_option maxRecDepth 100000 in
theorem sha1_First.calls (w : World) : Calls Tryz.prog 43 #[] w fun e w' => e = .returned (chV first) ∧ Below w.heap.size w w' := by
  go_enter Tryz.func43, Tryz.ntmps43
  go_wp2_with (first | ((with_reducible refine gate_dst (N := 0) rfl ?_); refine box_event ?hg (N := 0) ?hd (cs := #[.int .u32 0, .int .u32 0, .int .u32 0, .int .u32 0, .int .u32 0]) (t := 69) ?hr ?_; (case hd => rfl); (case hg => rfl); (case hr => first | (go_simp; done) | (go_simp; rfl)); intro gr egr w0 kgr_0 hb0; have Egr := Lib.hid egr; clear egr; have Ggr := Lib.hid (Nat.le_trans (Nat.le_refl _) (Nat.le_of_eq Egr.out.symm)); have HB_0 := Lib.hid (hb0); have cgr_0 : w0.cell? ⟨gr, 0, none⟩ = some (.int .u32 0) := (blk_cell kgr_0 0).trans rfl; have cgr_1 : w0.cell? ⟨gr, 1, none⟩ = some (.int .u32 0) := (blk_cell kgr_0 1).trans rfl; have cgr_2 : w0.cell? ⟨gr, 2, none⟩ = some (.int .u32 0) := (blk_cell kgr_0 2).trans rfl; have cgr_3 : w0.cell? ⟨gr, 3, none⟩ = some (.int .u32 0) := (blk_cell kgr_0 3).trans rfl; have cgr_4 : w0.cell? ⟨gr, 4, none⟩ = some (.int .u32 0) := (blk_cell kgr_0 4).trans rfl; have fgr_0 := blk_frozen kgr_0 0; have fgr_1 := blk_frozen kgr_0 1; have fgr_2 := blk_frozen kgr_0 2; have fgr_3 := blk_frozen kgr_0 3; have fgr_4 := blk_frozen kgr_0 4))
  have kR := blk_set (blk_set (blk_set (blk_set (blk_set (kgr_0) 0 (.int .u32 1732584193)) 1 (.int .u32 4023233417)) 2 (.int .u32 2562383102)) 3 (.int .u32 271733878)) 4 (.int .u32 3285377520)
  refine bodyPost_ret (results_c rfl _ _ gr 69 #[.int .u32 1732584193, .int .u32 4023233417, .int .u32 2562383102, .int .u32 271733878, .int .u32 3285377520] (0, 0) _ rfl ?hblk Tryz.underlying69 rfl rfl) rfl ?_
  case hblk => first | exact kR | exact blk_drewN kR _ | exact blk_drew kR
  exact ⟨rfl, by first | exact Below.setCell (Below.setCell (Below.setCell (Below.setCell (Below.setCell (HB_0.out) Ggr.out _) Ggr.out _) Ggr.out _) Ggr.out _) Ggr.out _ | exact pw_below_drewN (Below.setCell (Below.setCell (Below.setCell (Below.setCell (Below.setCell (HB_0.out) Ggr.out _) Ggr.out _) Ggr.out _) Ggr.out _) Ggr.out _) _ | exact below_drew (Below.setCell (Below.setCell (Below.setCell (Below.setCell (Below.setCell (HB_0.out) Ggr.out _) Ggr.out _) Ggr.out _) Ggr.out _) Ggr.out _)⟩
set_option maxRecDepth 100000 in
theorem diptychref02_First.calls (w : World) : Calls Tryz.prog 53 #[] w fun e w' => e = .returned (chV first) ∧ Below w.heap.size w w' := by
  go_enter Tryz.func53, Tryz.ntmps53
  go_wp2_with (first | ((with_reducible refine gate_dst (N := 0) rfl ?_); refine box_event ?hg (N := 0) ?hd (cs := #[.int .u32 0, .int .u32 0, .int .u32 0, .int .u32 0, .int .u32 0]) (t := 68) ?hr ?_; (case hd => rfl); (case hg => rfl); (case hr => first | (go_simp; done) | (go_simp; rfl)); intro gr egr w0 kgr_0 hb0; have Egr := Lib.hid egr; clear egr; have Ggr := Lib.hid (Nat.le_trans (Nat.le_refl _) (Nat.le_of_eq Egr.out.symm)); have HB_0 := Lib.hid (hb0); have cgr_0 : w0.cell? ⟨gr, 0, none⟩ = some (.int .u32 0) := (blk_cell kgr_0 0).trans rfl; have cgr_1 : w0.cell? ⟨gr, 1, none⟩ = some (.int .u32 0) := (blk_cell kgr_0 1).trans rfl; have cgr_2 : w0.cell? ⟨gr, 2, none⟩ = some (.int .u32 0) := (blk_cell kgr_0 2).trans rfl; have cgr_3 : w0.cell? ⟨gr, 3, none⟩ = some (.int .u32 0) := (blk_cell kgr_0 3).trans rfl; have cgr_4 : w0.cell? ⟨gr, 4, none⟩ = some (.int .u32 0) := (blk_cell kgr_0 4).trans rfl; have fgr_0 := blk_frozen kgr_0 0; have fgr_1 := blk_frozen kgr_0 1; have fgr_2 := blk_frozen kgr_0 2; have fgr_3 := blk_frozen kgr_0 3; have fgr_4 := blk_frozen kgr_0 4))
  have kR := blk_set (blk_set (blk_set (blk_set (blk_set (kgr_0) 0 (.int .u32 1732584193)) 1 (.int .u32 4023233417)) 2 (.int .u32 2562383102)) 3 (.int .u32 271733878)) 4 (.int .u32 3285377520)
  refine bodyPost_ret (results_c rfl _ _ gr 68 #[.int .u32 1732584193, .int .u32 4023233417, .int .u32 2562383102, .int .u32 271733878, .int .u32 3285377520] (0, 0) _ rfl ?hblk Tryz.underlying68 rfl rfl) rfl ?_
  case hblk => first | exact kR | exact blk_drewN kR _ | exact blk_drew kR
  exact ⟨rfl, by first | exact Below.setCell (Below.setCell (Below.setCell (Below.setCell (Below.setCell (HB_0.out) Ggr.out _) Ggr.out _) Ggr.out _) Ggr.out _) Ggr.out _ | exact pw_below_drewN (Below.setCell (Below.setCell (Below.setCell (Below.setCell (Below.setCell (HB_0.out) Ggr.out _) Ggr.out _) Ggr.out _) Ggr.out _) Ggr.out _) _ | exact below_drew (Below.setCell (Below.setCell (Below.setCell (Below.setCell (Below.setCell (HB_0.out) Ggr.out _) Ggr.out _) Ggr.out _) Ggr.out _) Ggr.out _)⟩
theorem box5 {W w : World} {b : Nat} {x y z u v : Value} {t : TypeId} (hb : w.heap[b]? = some (.cells #[.int .u32 0, .int .u32 0, .int .u32 0, .int .u32 0, .int .u32 0] t)) (hB : Below W.heap.size W w) (hg : W.heap.size ≤ b) :
    (((((w.setCell ⟨b, 0, none⟩ x).setCell ⟨b, 1, none⟩ y).setCell ⟨b, 2, none⟩ z).setCell ⟨b, 3, none⟩ u).setCell ⟨b, 4, none⟩ v).heap[b]? = some (.cells #[x, y, z, u, v] t) ∧ Below W.heap.size W (((((w.setCell ⟨b, 0, none⟩ x).setCell ⟨b, 1, none⟩ y).setCell ⟨b, 2, none⟩ z).setCell ⟨b, 3, none⟩ u).setCell ⟨b, 4, none⟩ v) :=
  ⟨blk_set (blk_set (blk_set (blk_set (blk_set hb 0 x) 1 y) 2 z) 3 u) 4 v, Below.setCell (Below.setCell (Below.setCell (Below.setCell (Below.setCell hB hg _) hg _) hg _) hg _) hg _⟩
set_option maxHeartbeats 4000000 in
set_option maxRecDepth 100000 in
theorem diptychref02_Back.calls (a0 a1 a2 a3 a4 t wd : Int) (r : Ch) (w : World) (h : diptychref02_Back.f (a0, a1, a2, a3, a4) t wd = some r) : Calls Tryz.prog 72 #[chV (a0, a1, a2, a3, a4), .int .i64 t, .int .u32 wd] w fun e w' => e = .returned (chV r) ∧ Below w.heap.size w w' := by
  unfold diptychref02_Back.f at h
  obtain ⟨bb, h1, ha⟩ := Option.bind_eq_some_iff.mp h
  obtain ⟨nn, h2, hb⟩ := Option.bind_eq_some_iff.mp ha
  obtain rfl := Option.some.inj hb
  have H1 := Lib.hid h1
  have H2 := Lib.hid h2
  clear h ha hb h1 h2
  go_enter Tryz.func72, Tryz.ntmps72
  go_wp2_with (first | ((with_reducible refine gate_dst (N := 3) rfl ?_); refine box_event ?hg (N := 3) ?hd (cs := #[.int .u32 a0, .int .u32 a1, .int .u32 a2, .int .u32 a3, .int .u32 a4]) (t := 68) ?hr ?_; (case hd => rfl); (case hg => rfl); (case hr => first | (go_simp; done) | (go_simp; rfl)); intro gx egx w0 kgx_0 hb0; have Egx := Lib.hid egx; clear egx; have Ggx := Lib.hid (Nat.le_trans (Nat.le_refl _) (Nat.le_of_eq Egx.out.symm)); have HB_0 := Lib.hid (hb0); have cgx_0 : w0.cell? ⟨gx, 0, none⟩ = some (.int .u32 a0) := (blk_cell kgx_0 0).trans rfl; have cgx_1 : w0.cell? ⟨gx, 1, none⟩ = some (.int .u32 a1) := (blk_cell kgx_0 1).trans rfl; have cgx_2 : w0.cell? ⟨gx, 2, none⟩ = some (.int .u32 a2) := (blk_cell kgx_0 2).trans rfl; have cgx_3 : w0.cell? ⟨gx, 3, none⟩ = some (.int .u32 a3) := (blk_cell kgx_0 3).trans rfl; have cgx_4 : w0.cell? ⟨gx, 4, none⟩ = some (.int .u32 a4) := (blk_cell kgx_0 4).trans rfl; have fgx_0 := blk_frozen kgx_0 0; have fgx_1 := blk_frozen kgx_0 1; have fgx_2 := blk_frozen kgx_0 2; have fgx_3 := blk_frozen kgx_0 3; have fgx_4 := blk_frozen kgx_0 4) | ((with_reducible refine gate_dst (N := 6) rfl ?_); refine box_event ?hg (N := 6) ?hd (cs := #[.int .u32 0, .int .u32 0, .int .u32 0, .int .u32 0, .int .u32 0]) (t := 68) ?hr ?_; (case hd => rfl); (case hg => rfl); (case hr => first | (go_simp; done) | (go_simp; rfl)); intro gr egr w1 kgr_1 hb1; have Egr := Lib.hid egr; clear egr; have Ggr := Lib.hid (Nat.le_trans (below_size (by first | exact HB_0.out | exact pw_below_drewN HB_0.out _ | exact below_drew HB_0.out : Below w.heap.size w _)) (Nat.le_of_eq Egr.out.symm)); have ngx_gr := Nat.ne_of_lt (Nat.lt_of_lt_of_le (blk_lt (by first | exact kgx_0 | exact blk_drewN kgx_0 _ | exact blk_drew kgx_0)) (Nat.le_of_eq Egr.out.symm)); have ngr_gx := ngx_gr.symm; have kgx_1 := blk_below (by first | exact kgx_0 | exact blk_drewN (kgx_0) _ | exact blk_drew (kgx_0)) hb1; have HB_1 := Lib.hid (below_step (by first | exact HB_0.out | exact pw_below_drewN (HB_0.out) _ | exact below_drew (HB_0.out)) hb1); clear cgx_0 fgx_0 cgx_1 fgx_1 cgx_2 fgx_2 cgx_3 fgx_3 cgx_4 fgx_4; have cgx_0 : w1.cell? ⟨gx, 0, none⟩ = some (.int .u32 a0) := (blk_cell kgx_1 0).trans rfl; have cgx_1 : w1.cell? ⟨gx, 1, none⟩ = some (.int .u32 a1) := (blk_cell kgx_1 1).trans rfl; have cgx_2 : w1.cell? ⟨gx, 2, none⟩ = some (.int .u32 a2) := (blk_cell kgx_1 2).trans rfl; have cgx_3 : w1.cell? ⟨gx, 3, none⟩ = some (.int .u32 a3) := (blk_cell kgx_1 3).trans rfl; have cgx_4 : w1.cell? ⟨gx, 4, none⟩ = some (.int .u32 a4) := (blk_cell kgx_1 4).trans rfl; have fgx_0 := blk_frozen kgx_1 0; have fgx_1 := blk_frozen kgx_1 1; have fgx_2 := blk_frozen kgx_1 2; have fgx_3 := blk_frozen kgx_1 3; have fgx_4 := blk_frozen kgx_1 4; have cgr_0 : w1.cell? ⟨gr, 0, none⟩ = some (.int .u32 0) := (blk_cell kgr_1 0).trans rfl; have cgr_1 : w1.cell? ⟨gr, 1, none⟩ = some (.int .u32 0) := (blk_cell kgr_1 1).trans rfl; have cgr_2 : w1.cell? ⟨gr, 2, none⟩ = some (.int .u32 0) := (blk_cell kgr_1 2).trans rfl; have cgr_3 : w1.cell? ⟨gr, 3, none⟩ = some (.int .u32 0) := (blk_cell kgr_1 3).trans rfl; have cgr_4 : w1.cell? ⟨gr, 4, none⟩ = some (.int .u32 0) := (blk_cell kgr_1 4).trans rfl; have fgr_0 := blk_frozen kgr_1 0; have fgr_1 := blk_frozen kgr_1 1; have fgr_2 := blk_frozen kgr_1 2; have fgr_3 := blk_frozen kgr_1 3; have fgr_4 := blk_frozen kgr_1 4))
  have KX := Lib.hid kgx_1
  have KR := Lib.hid kgr_1
  have HB := Lib.hid (Below.refl w1.heap.size w1)
  go_cut [7] from 9 to 18 (fun v7 wx => ∃ gm, v7 = .pointer (some ⟨gm, 0, none⟩) ∧ Hid (wx.heap[gm]? = some (.cells #[.int .u32 a1, .int .u32 bb, .int .u32 a3, .int .u32 a4, .int .u32 0] 68 (0, 0))) ∧ Hid (Below w1.heap.size w1 wx) ∧ Hid (w1.heap.size ≤ gm))
  case first =>
    rename_i J_ K_ hJ_ hK_
    clear H2 HB_0 HB_1 Ggx Ggr Egx Egr kgx_0 kgx_1 kgr_1
    go_region_held3 (fun W => W.cell? ⟨gx, 1, none⟩ = some (.int .u32 a1) ∧ W.cell? ⟨gx, 2, none⟩ = some (.int .u32 a2) ∧ W.cell? ⟨gx, 3, none⟩ = some (.int .u32 a3) ∧ W.cell? ⟨gx, 4, none⟩ = some (.int .u32 a4)) (first | (with_reducible exact ⟨cgx_1, cgx_2, cgx_3, cgx_4⟩) | (with_reducible exact ⟨x1, x2, x3, x4⟩) | go_keep) (first | (go_at_call 84; with_reducible refine (diptychref02_Rot.calls a2 2 _ _ H1.out).mono ?_; rintro e w2 ⟨rfl, hd2⟩; have hb2 := hd2.below; have HB2 := Lib.hid (below_step (by repeat (first | exact HB.out | apply below_alloc | apply pw_below_drewN | apply below_drew1 | apply below_drew)) hb2); (first | (have bx := blk_below (blk_new _ _) hb2; have BGE := Lib.hid (below_size (by repeat (first | exact HB.out | apply below_alloc | apply pw_below_drewN | apply below_drew1 | apply below_drew))); have b0 : w2.cell? ⟨_, 0, none⟩ = some (.int .u32 0) := (blk_cell bx 0).trans rfl; have bf0 := blk_frozen bx 0; have b1 : w2.cell? ⟨_, 1, none⟩ = some (.int .u32 0) := (blk_cell bx 1).trans rfl; have bf1 := blk_frozen bx 1; have b2 : w2.cell? ⟨_, 2, none⟩ = some (.int .u32 0) := (blk_cell bx 2).trans rfl; have bf2 := blk_frozen bx 2; have b3 : w2.cell? ⟨_, 3, none⟩ = some (.int .u32 0) := (blk_cell bx 3).trans rfl; have bf3 := blk_frozen bx 3; have b4 : w2.cell? ⟨_, 4, none⟩ = some (.int .u32 0) := (blk_cell bx 4).trans rfl; have bf4 := blk_frozen bx 4; have BX := Lib.hid bx; clear bx; have bne := Nat.ne_of_lt (Nat.lt_of_lt_of_le (blk_lt KX.out) BGE.out); have bne2 := bne.symm) | (have bx := blk_below (blk_drew (blk_new _ _)) hb2; have BGE := Lib.hid (below_size (by repeat (first | exact HB.out | apply below_alloc | apply pw_below_drewN | apply below_drew1 | apply below_drew))); have b0 : w2.cell? ⟨_, 0, none⟩ = some (.int .u32 0) := (blk_cell bx 0).trans rfl; have bf0 := blk_frozen bx 0; have b1 : w2.cell? ⟨_, 1, none⟩ = some (.int .u32 0) := (blk_cell bx 1).trans rfl; have bf1 := blk_frozen bx 1; have b2 : w2.cell? ⟨_, 2, none⟩ = some (.int .u32 0) := (blk_cell bx 2).trans rfl; have bf2 := blk_frozen bx 2; have b3 : w2.cell? ⟨_, 3, none⟩ = some (.int .u32 0) := (blk_cell bx 3).trans rfl; have bf3 := blk_frozen bx 3; have b4 : w2.cell? ⟨_, 4, none⟩ = some (.int .u32 0) := (blk_cell bx 4).trans rfl; have bf4 := blk_frozen bx 4; have BX := Lib.hid bx; clear bx; have bne := Nat.ne_of_lt (Nat.lt_of_lt_of_le (blk_lt KX.out) BGE.out); have bne2 := bne.symm) | skip); clear HB; have HB := HB2; clear HB2 hb2 hd2; have kx2 := blk_below KX.out HB.out; have x1 : w2.cell? ⟨gx, 1, none⟩ = some (.int .u32 a1) := (blk_cell kx2 1).trans rfl; have x2 : w2.cell? ⟨gx, 2, none⟩ = some (.int .u32 a2) := (blk_cell kx2 2).trans rfl; have x3 : w2.cell? ⟨gx, 3, none⟩ = some (.int .u32 a3) := (blk_cell kx2 3).trans rfl; have x4 : w2.cell? ⟨gx, 4, none⟩ = some (.int .u32 a4) := (blk_cell kx2 4).trans rfl; clear kx2))
    all_goals (refine hK_ _ _ (Met.intro (hJ_ _ _ ?_)); (repeat apply Exists.intro); refine ⟨?_, rfl⟩)
    all_goals (first | exact ⟨_, rfl, Lib.hid (box5 BX.out HB.out BGE.out).1, Lib.hid (box5 BX.out HB.out BGE.out).2, BGE⟩ | exact ⟨_, rfl, Lib.hid (blk_new _ _), Lib.hid (below_alloc HB.out _), Lib.hid (below_size HB.out)⟩)
  case rest =>
    obtain ⟨gm, rfl, HM, HBM, HGM⟩ := hcut
    have kgx_2 : wc.heap[gx]? = _ := (HBM.out.block gx (blk_lt KX.out)).trans KX.out
    have kgr_2 : wc.heap[gr]? = _ := (HBM.out.block gr (blk_lt KR.out)).trans KR.out
    have kgm_2 := HM.out
    have HB_2 := Lib.hid (below_step HB_1.out HBM.out)
    have Ggm := Lib.hid (Nat.le_trans (below_size HB_1.out) HGM.out)
    have ngx_gm := Nat.ne_of_lt (Nat.lt_of_lt_of_le (blk_lt KX.out) HGM.out)
    have ngm_gx := ngx_gm.symm
    have ngr_gm := Nat.ne_of_lt (Nat.lt_of_lt_of_le (blk_lt KR.out) HGM.out)
    have ngm_gr := ngr_gm.symm
    have cgx_0 : wc.cell? ⟨gx, 0, none⟩ = some (.int .u32 a0) := (blk_cell kgx_2 0).trans rfl
    have cgx_1 : wc.cell? ⟨gx, 1, none⟩ = some (.int .u32 a1) := (blk_cell kgx_2 1).trans rfl
    have cgx_2 : wc.cell? ⟨gx, 2, none⟩ = some (.int .u32 a2) := (blk_cell kgx_2 2).trans rfl
    have cgx_3 : wc.cell? ⟨gx, 3, none⟩ = some (.int .u32 a3) := (blk_cell kgx_2 3).trans rfl
    have cgx_4 : wc.cell? ⟨gx, 4, none⟩ = some (.int .u32 a4) := (blk_cell kgx_2 4).trans rfl
    have fgx_0 := blk_frozen kgx_2 0
    have fgx_1 := blk_frozen kgx_2 1
    have fgx_2 := blk_frozen kgx_2 2
    have fgx_3 := blk_frozen kgx_2 3
    have fgx_4 := blk_frozen kgx_2 4
    have cgr_0 : wc.cell? ⟨gr, 0, none⟩ = some (.int .u32 0) := (blk_cell kgr_2 0).trans rfl
    have cgr_1 : wc.cell? ⟨gr, 1, none⟩ = some (.int .u32 0) := (blk_cell kgr_2 1).trans rfl
    have cgr_2 : wc.cell? ⟨gr, 2, none⟩ = some (.int .u32 0) := (blk_cell kgr_2 2).trans rfl
    have cgr_3 : wc.cell? ⟨gr, 3, none⟩ = some (.int .u32 0) := (blk_cell kgr_2 3).trans rfl
    have cgr_4 : wc.cell? ⟨gr, 4, none⟩ = some (.int .u32 0) := (blk_cell kgr_2 4).trans rfl
    have fgr_0 := blk_frozen kgr_2 0
    have fgr_1 := blk_frozen kgr_2 1
    have fgr_2 := blk_frozen kgr_2 2
    have fgr_3 := blk_frozen kgr_2 3
    have fgr_4 := blk_frozen kgr_2 4
    have cgm_0 : wc.cell? ⟨gm, 0, none⟩ = some (.int .u32 a1) := (blk_cell kgm_2 0).trans rfl
    have cgm_1 : wc.cell? ⟨gm, 1, none⟩ = some (.int .u32 bb) := (blk_cell kgm_2 1).trans rfl
    have cgm_2 : wc.cell? ⟨gm, 2, none⟩ = some (.int .u32 a3) := (blk_cell kgm_2 2).trans rfl
    have cgm_3 : wc.cell? ⟨gm, 3, none⟩ = some (.int .u32 a4) := (blk_cell kgm_2 3).trans rfl
    have cgm_4 : wc.cell? ⟨gm, 4, none⟩ = some (.int .u32 0) := (blk_cell kgm_2 4).trans rfl
    have fgm_0 := blk_frozen kgm_2 0
    have fgm_1 := blk_frozen kgm_2 1
    have fgm_2 := blk_frozen kgm_2 2
    have fgm_3 := blk_frozen kgm_2 3
    have fgm_4 := blk_frozen kgm_2 4
    go_wp2_with (first | (go_at_call 71; with_reducible refine (diptychref02_Step.calls a1 bb a3 a4 0 t wd _ _ H2.out).mono ?_; rintro e w3 ⟨rfl, hq3⟩; have hb3 := hq3; have kgx_3 := blk_below (by first | exact kgx_2 | exact blk_drewN (kgx_2) _ | exact blk_drew (kgx_2)) hb3; have kgr_3 := blk_below (by first | exact kgr_2 | exact blk_drewN (kgr_2) _ | exact blk_drew (kgr_2)) hb3; have kgm_3 := blk_below (by first | exact kgm_2 | exact blk_drewN (kgm_2) _ | exact blk_drew (kgm_2)) hb3; have HB_3 := Lib.hid (below_step (by first | exact HB_2.out | exact pw_below_drewN (HB_2.out) _ | exact below_drew (HB_2.out)) hb3); clear hq3 cgx_0 fgx_0 cgx_1 fgx_1 cgx_2 fgx_2 cgx_3 fgx_3 cgx_4 fgx_4 cgr_0 fgr_0 cgr_1 fgr_1 cgr_2 fgr_2 cgr_3 fgr_3 cgr_4 fgr_4 cgm_0 fgm_0 cgm_1 fgm_1 cgm_2 fgm_2 cgm_3 fgm_3 cgm_4 fgm_4; have cgx_0 : w3.cell? ⟨gx, 0, none⟩ = some (.int .u32 a0) := (blk_cell kgx_3 0).trans rfl; have cgx_1 : w3.cell? ⟨gx, 1, none⟩ = some (.int .u32 a1) := (blk_cell kgx_3 1).trans rfl; have cgx_2 : w3.cell? ⟨gx, 2, none⟩ = some (.int .u32 a2) := (blk_cell kgx_3 2).trans rfl; have cgx_3 : w3.cell? ⟨gx, 3, none⟩ = some (.int .u32 a3) := (blk_cell kgx_3 3).trans rfl; have cgx_4 : w3.cell? ⟨gx, 4, none⟩ = some (.int .u32 a4) := (blk_cell kgx_3 4).trans rfl; have fgx_0 := blk_frozen kgx_3 0; have fgx_1 := blk_frozen kgx_3 1; have fgx_2 := blk_frozen kgx_3 2; have fgx_3 := blk_frozen kgx_3 3; have fgx_4 := blk_frozen kgx_3 4; have cgr_0 : w3.cell? ⟨gr, 0, none⟩ = some (.int .u32 0) := (blk_cell kgr_3 0).trans rfl; have cgr_1 : w3.cell? ⟨gr, 1, none⟩ = some (.int .u32 0) := (blk_cell kgr_3 1).trans rfl; have cgr_2 : w3.cell? ⟨gr, 2, none⟩ = some (.int .u32 0) := (blk_cell kgr_3 2).trans rfl; have cgr_3 : w3.cell? ⟨gr, 3, none⟩ = some (.int .u32 0) := (blk_cell kgr_3 3).trans rfl; have cgr_4 : w3.cell? ⟨gr, 4, none⟩ = some (.int .u32 0) := (blk_cell kgr_3 4).trans rfl; have fgr_0 := blk_frozen kgr_3 0; have fgr_1 := blk_frozen kgr_3 1; have fgr_2 := blk_frozen kgr_3 2; have fgr_3 := blk_frozen kgr_3 3; have fgr_4 := blk_frozen kgr_3 4; have cgm_0 : w3.cell? ⟨gm, 0, none⟩ = some (.int .u32 a1) := (blk_cell kgm_3 0).trans rfl; have cgm_1 : w3.cell? ⟨gm, 1, none⟩ = some (.int .u32 bb) := (blk_cell kgm_3 1).trans rfl; have cgm_2 : w3.cell? ⟨gm, 2, none⟩ = some (.int .u32 a3) := (blk_cell kgm_3 2).trans rfl; have cgm_3 : w3.cell? ⟨gm, 3, none⟩ = some (.int .u32 a4) := (blk_cell kgm_3 3).trans rfl; have cgm_4 : w3.cell? ⟨gm, 4, none⟩ = some (.int .u32 0) := (blk_cell kgm_3 4).trans rfl; have fgm_0 := blk_frozen kgm_3 0; have fgm_1 := blk_frozen kgm_3 1; have fgm_2 := blk_frozen kgm_3 2; have fgm_3 := blk_frozen kgm_3 3; have fgm_4 := blk_frozen kgm_3 4) | ((with_reducible refine gate_dst (N := 8) rfl ?_); refine box_event ?hg (N := 8) ?hd (cs := #[.int .u32 0, .int .u32 0, .int .u32 0, .int .u32 0, .int .u32 0]) (t := 68) ?hr ?_; (case hd => rfl); (case hg => rfl); (case hr => first | (go_simp; done) | (go_simp; rfl)); intro gn egn w4 kgn_4 hb4; have Egn := Lib.hid egn; clear egn; have Ggn := Lib.hid (Nat.le_trans (below_size (by first | exact HB_3.out | exact pw_below_drewN HB_3.out _ | exact below_drew HB_3.out : Below w.heap.size w _)) (Nat.le_of_eq Egn.out.symm)); have ngx_gn := Nat.ne_of_lt (Nat.lt_of_lt_of_le (blk_lt (by first | exact kgx_3 | exact blk_drewN kgx_3 _ | exact blk_drew kgx_3)) (Nat.le_of_eq Egn.out.symm)); have ngn_gx := ngx_gn.symm; have ngr_gn := Nat.ne_of_lt (Nat.lt_of_lt_of_le (blk_lt (by first | exact kgr_3 | exact blk_drewN kgr_3 _ | exact blk_drew kgr_3)) (Nat.le_of_eq Egn.out.symm)); have ngn_gr := ngr_gn.symm; have ngm_gn := Nat.ne_of_lt (Nat.lt_of_lt_of_le (blk_lt (by first | exact kgm_3 | exact blk_drewN kgm_3 _ | exact blk_drew kgm_3)) (Nat.le_of_eq Egn.out.symm)); have ngn_gm := ngm_gn.symm; have kgx_4 := blk_below (by first | exact kgx_3 | exact blk_drewN (kgx_3) _ | exact blk_drew (kgx_3)) hb4; have kgr_4 := blk_below (by first | exact kgr_3 | exact blk_drewN (kgr_3) _ | exact blk_drew (kgr_3)) hb4; have kgm_4 := blk_below (by first | exact kgm_3 | exact blk_drewN (kgm_3) _ | exact blk_drew (kgm_3)) hb4; have HB_4 := Lib.hid (below_step (by first | exact HB_3.out | exact pw_below_drewN (HB_3.out) _ | exact below_drew (HB_3.out)) hb4); clear cgx_0 fgx_0 cgx_1 fgx_1 cgx_2 fgx_2 cgx_3 fgx_3 cgx_4 fgx_4 cgr_0 fgr_0 cgr_1 fgr_1 cgr_2 fgr_2 cgr_3 fgr_3 cgr_4 fgr_4 cgm_0 fgm_0 cgm_1 fgm_1 cgm_2 fgm_2 cgm_3 fgm_3 cgm_4 fgm_4; have cgx_0 : w4.cell? ⟨gx, 0, none⟩ = some (.int .u32 a0) := (blk_cell kgx_4 0).trans rfl; have cgx_1 : w4.cell? ⟨gx, 1, none⟩ = some (.int .u32 a1) := (blk_cell kgx_4 1).trans rfl; have cgx_2 : w4.cell? ⟨gx, 2, none⟩ = some (.int .u32 a2) := (blk_cell kgx_4 2).trans rfl; have cgx_3 : w4.cell? ⟨gx, 3, none⟩ = some (.int .u32 a3) := (blk_cell kgx_4 3).trans rfl; have cgx_4 : w4.cell? ⟨gx, 4, none⟩ = some (.int .u32 a4) := (blk_cell kgx_4 4).trans rfl; have fgx_0 := blk_frozen kgx_4 0; have fgx_1 := blk_frozen kgx_4 1; have fgx_2 := blk_frozen kgx_4 2; have fgx_3 := blk_frozen kgx_4 3; have fgx_4 := blk_frozen kgx_4 4; have cgr_0 : w4.cell? ⟨gr, 0, none⟩ = some (.int .u32 0) := (blk_cell kgr_4 0).trans rfl; have cgr_1 : w4.cell? ⟨gr, 1, none⟩ = some (.int .u32 0) := (blk_cell kgr_4 1).trans rfl; have cgr_2 : w4.cell? ⟨gr, 2, none⟩ = some (.int .u32 0) := (blk_cell kgr_4 2).trans rfl; have cgr_3 : w4.cell? ⟨gr, 3, none⟩ = some (.int .u32 0) := (blk_cell kgr_4 3).trans rfl; have cgr_4 : w4.cell? ⟨gr, 4, none⟩ = some (.int .u32 0) := (blk_cell kgr_4 4).trans rfl; have fgr_0 := blk_frozen kgr_4 0; have fgr_1 := blk_frozen kgr_4 1; have fgr_2 := blk_frozen kgr_4 2; have fgr_3 := blk_frozen kgr_4 3; have fgr_4 := blk_frozen kgr_4 4; have cgm_0 : w4.cell? ⟨gm, 0, none⟩ = some (.int .u32 a1) := (blk_cell kgm_4 0).trans rfl; have cgm_1 : w4.cell? ⟨gm, 1, none⟩ = some (.int .u32 bb) := (blk_cell kgm_4 1).trans rfl; have cgm_2 : w4.cell? ⟨gm, 2, none⟩ = some (.int .u32 a3) := (blk_cell kgm_4 2).trans rfl; have cgm_3 : w4.cell? ⟨gm, 3, none⟩ = some (.int .u32 a4) := (blk_cell kgm_4 3).trans rfl; have cgm_4 : w4.cell? ⟨gm, 4, none⟩ = some (.int .u32 0) := (blk_cell kgm_4 4).trans rfl; have fgm_0 := blk_frozen kgm_4 0; have fgm_1 := blk_frozen kgm_4 1; have fgm_2 := blk_frozen kgm_4 2; have fgm_3 := blk_frozen kgm_4 3; have fgm_4 := blk_frozen kgm_4 4; have cgn_0 : w4.cell? ⟨gn, 0, none⟩ = some (.int .u32 0) := (blk_cell kgn_4 0).trans rfl; have cgn_1 : w4.cell? ⟨gn, 1, none⟩ = some (.int .u32 0) := (blk_cell kgn_4 1).trans rfl; have cgn_2 : w4.cell? ⟨gn, 2, none⟩ = some (.int .u32 0) := (blk_cell kgn_4 2).trans rfl; have cgn_3 : w4.cell? ⟨gn, 3, none⟩ = some (.int .u32 0) := (blk_cell kgn_4 3).trans rfl; have cgn_4 : w4.cell? ⟨gn, 4, none⟩ = some (.int .u32 0) := (blk_cell kgn_4 4).trans rfl; have fgn_0 := blk_frozen kgn_4 0; have fgn_1 := blk_frozen kgn_4 1; have fgn_2 := blk_frozen kgn_4 2; have fgn_3 := blk_frozen kgn_4 3; have fgn_4 := blk_frozen kgn_4 4))
    have kR := blk_set (blk_set (blk_set (blk_set (blk_set (blk_far (p := ⟨gm, 4, none⟩) (blk_far (p := ⟨gn, 4, none⟩) (blk_far (p := ⟨gn, 3, none⟩) (blk_far (p := ⟨gn, 2, none⟩) (blk_far (p := ⟨gn, 1, none⟩) (blk_far (p := ⟨gn, 0, none⟩) (kgr_4) ngr_gn (.int .u32 nn.1)) ngr_gn (.int .u32 nn.2.1)) ngr_gn (.int .u32 nn.2.2.1)) ngr_gn (.int .u32 nn.2.2.2.1)) ngr_gn (.int .u32 nn.2.2.2.2)) ngr_gm (.int .u32 ((a0 - nn.1) % 4294967296))) 0 (.int .u32 a1)) 1 (.int .u32 bb)) 2 (.int .u32 a3)) 3 (.int .u32 a4)) 4 (.int .u32 ((a0 - nn.1) % 4294967296))
    refine bodyPost_ret (results_c rfl _ _ gr 68 #[.int .u32 a1, .int .u32 bb, .int .u32 a3, .int .u32 a4, .int .u32 ((a0 - nn.1) % 4294967296)] (0, 0) _ rfl ?hblk Tryz.underlying68 rfl rfl) rfl ?_
    case hblk => first | exact kR | exact blk_drewN kR _ | exact blk_drew kR
    exact ⟨rfl, by first | exact Below.setCell (Below.setCell (Below.setCell (Below.setCell (Below.setCell (Below.setCell (Below.setCell (Below.setCell (Below.setCell (Below.setCell (Below.setCell (HB_4.out) Ggn.out _) Ggn.out _) Ggn.out _) Ggn.out _) Ggn.out _) Ggm.out _) Ggr.out _) Ggr.out _) Ggr.out _) Ggr.out _) Ggr.out _ | exact pw_below_drewN (Below.setCell (Below.setCell (Below.setCell (Below.setCell (Below.setCell (Below.setCell (Below.setCell (Below.setCell (Below.setCell (Below.setCell (Below.setCell (HB_4.out) Ggn.out _) Ggn.out _) Ggn.out _) Ggn.out _) Ggn.out _) Ggm.out _) Ggr.out _) Ggr.out _) Ggr.out _) Ggr.out _) Ggr.out _) _ | exact below_drew (Below.setCell (Below.setCell (Below.setCell (Below.setCell (Below.setCell (Below.setCell (Below.setCell (Below.setCell (Below.setCell (Below.setCell (Below.setCell (HB_4.out) Ggn.out _) Ggn.out _) Ggn.out _) Ggn.out _) Ggn.out _) Ggm.out _) Ggr.out _) Ggr.out _) Ggr.out _) Ggr.out _) Ggr.out _)⟩
end Go.Proofs.YtfjhnnpdaggnbaaGreatDoor.P
end
/-! A0 -/
section
namespace Go.Proofs.YtfjhnnpdaggnbaaGreatDoor.Q
open Go.RowKit Go.Proofs.YtfjhnnpdaggnbaaGreatDoor.P Go.Proofs.YtfjhnnpdaggnbaaGreatDoorW.PrintWords
theorem hm : Tryz.prog.follows .mixedOrders = true := by kernel_rfl
theorem bits_nonneg (op : BinOp) (k : IntKind) (hk : k = .u64 ∨ k = .u32) (x y : Int) : 0 ≤ Go.bits op k x y := by
  have h : ∀ z : Int, 0 ≤ k.wrap z := by
    intro z
    rcases hk with rfl | rfl
    · rw [IntKind.wrap_u64]; omega
    · rw [IntKind.wrap_u32]; omega
  unfold Go.bits
  cases op <;> first | exact h _ | exact Int.le_refl _
theorem u64_nonneg (x : Int) : 0 ≤ IntKind.u64.wrap x := by rw [IntKind.wrap_u64]; omega
def rotl (x k : Int) : Int := Go.bits .or .u32 (shl .u32 x (Go.bits .and .u64 (IntKind.u64.wrap k) 31)) (shr .u32 x (IntKind.u64.wrap (32 - (Go.bits .and .u64 (IntKind.u64.wrap k) 31))))
theorem rotl_eq (x k : Int) : bits_RotateLeft32.f x k = some (rotl x k) := by
  unfold bits_RotateLeft32.f
  rw [if_pos (bits_nonneg _ _ (.inl rfl) _ _), if_pos (u64_nonneg _)]
  rfl
theorem RotL.calls (x k : Int) (w0 : World) : Calls Tryz.prog 61 #[.int .u32 x, .int .i64 k] w0 fun e w' => e = .returned (.int .u32 (rotl x k)) ∧ Low w0 w' :=
  (bits_RotateLeft32.calls x k _ w0 (rotl_eq x k)).mono fun _ _ ⟨e, h⟩ => ⟨e, h.below⟩
def rotr (x k : Int) : Int := Go.bits .or .u32 (shl .u32 x k) (shr .u32 x (IntKind.u64.wrap (32 - k)))
theorem rotr_eq (x k : Int) (h : 0 ≤ k) : diptychref02_Rot.f x k = some (rotr x k) := by
  unfold diptychref02_Rot.f
  rw [if_pos h, if_pos (u64_nonneg _)]
  rfl
theorem RotR.calls (x k : Int) (h : 0 ≤ k) (w0 : World) : Calls Tryz.prog 84 #[.int .u32 x, .int .u64 k] w0 fun e w' => e = .returned (.int .u32 (rotr x k)) ∧ Low w0 w' :=
  (diptychref02_Rot.calls x k _ w0 (rotr_eq x k h)).mono fun _ _ ⟨e, h⟩ => ⟨e, h.below⟩
def mixL (t b c d : Int) : Int := (sha1_mixed.f t b c d).getD 0
theorem mixL_eq (t b c d : Int) : sha1_mixed.f t b c d = some (mixL t b c d) := by
  obtain ⟨r, h⟩ : ∃ r, sha1_mixed.f t b c d = some r := by
    unfold sha1_mixed.f
    repeat' split
    all_goals exact ⟨_, rfl⟩
  rw [mixL, h]
  rfl
def mixR (t b c d : Int) : Int := (diptychref02_Mix.f t b c d).getD 0
theorem mixR_eq (t b c d : Int) : diptychref02_Mix.f t b c d = some (mixR t b c d) := by
  obtain ⟨r, h⟩ : ∃ r, diptychref02_Mix.f t b c d = some r := by
    unfold diptychref02_Mix.f
    repeat' split
    all_goals exact ⟨_, rfl⟩
  rw [mixR, h]
  rfl
abbrev cl (x : Ch) : List Int := [x.1, x.2.1, x.2.2.1, x.2.2.2.1, x.2.2.2.2]
theorem cl_len (x : Ch) : (cl x).length = 5 := rfl
def stepL (x : Ch) (t w : Int) : Ch := ((rotl x.1 5 + mixL t x.2.1 x.2.2.1 x.2.2.2.1 + x.2.2.2.2 + w) % 4294967296, x.1, rotl x.2.1 30, x.2.2.1, x.2.2.2.1)
def stepR (x : Ch) (t w : Int) : Ch := (IntKind.u32.wrap (IntKind.u32.wrap (IntKind.u32.wrap (rotr x.1 5 + mixR t x.2.1 x.2.2.1 x.2.2.2.1) + x.2.2.2.2) + w), x.1, rotr x.2.1 30, x.2.2.1, x.2.2.2.1)
def backL (x : Ch) (t w : Int) : Ch := (x.2.1, rotl x.2.2.1 2, x.2.2.2.1, x.2.2.2.2, IntKind.u32.wrap (IntKind.u32.wrap (IntKind.u32.wrap (x.1 - rotl x.2.1 5) - mixL t (rotl x.2.2.1 2) x.2.2.2.1 x.2.2.2.2) - w))
def backR (x : Ch) (t w : Int) : Ch := (x.2.1, rotr x.2.2.1 2, x.2.2.2.1, x.2.2.2.2, (x.1 - (stepR (x.2.1, rotr x.2.2.1 2, x.2.2.2.1, x.2.2.2.2, 0) t w).1) % 4294967296)
theorem StepL.calls (x : Ch) (t wd : Int) (w0 : World) : Calls Tryz.prog 63 #[.agg (nums .u32 (cl x)), .int .i64 t, .int .u32 wd] w0 fun e w' => e = .returned (.agg (nums .u32 (cl (stepL x t wd)))) ∧ Low w0 w' :=
  sha1_Step.calls x.1 x.2.1 x.2.2.1 x.2.2.2.1 x.2.2.2.2 t wd _ w0 (by unfold sha1_Step.f; simp only [rotl_eq, mixL_eq, Option.bind_some]; rfl)
theorem StepR.calls (x : Ch) (t wd : Int) (w0 : World) : Calls Tryz.prog 71 #[.agg (nums .u32 (cl x)), .int .i64 t, .int .u32 wd] w0 fun e w' => e = .returned (.agg (nums .u32 (cl (stepR x t wd)))) ∧ Low w0 w' :=
  diptychref02_Step.calls x.1 x.2.1 x.2.2.1 x.2.2.2.1 x.2.2.2.2 t wd _ w0 (by unfold diptychref02_Step.f; simp only [rotr_eq _ 5 (by decide), rotr_eq _ 30 (by decide), mixR_eq, Option.bind_some]; rfl)
theorem BackL.calls (x : Ch) (t wd : Int) (w0 : World) : Calls Tryz.prog 64 #[.agg (nums .u32 (cl x)), .int .i64 t, .int .u32 wd] w0 fun e w' => e = .returned (.agg (nums .u32 (cl (backL x t wd)))) ∧ Low w0 w' :=
  sha1_Back.calls x.1 x.2.1 x.2.2.1 x.2.2.2.1 x.2.2.2.2 t wd _ w0 (by unfold sha1_Back.f; simp only [rotl_eq, mixL_eq, Option.bind_some]; rfl)
theorem BackR.calls (x : Ch) (t wd : Int) (w0 : World) : Calls Tryz.prog 72 #[.agg (nums .u32 (cl x)), .int .i64 t, .int .u32 wd] w0 fun e w' => e = .returned (.agg (nums .u32 (cl (backR x t wd)))) ∧ Low w0 w' :=
  diptychref02_Back.calls x.1 x.2.1 x.2.2.1 x.2.2.2.1 x.2.2.2.2 t wd _ w0 (by unfold diptychref02_Back.f diptychref02_Step.f; simp only [rotr_eq _ 5 (by decide), rotr_eq _ 30 (by decide), rotr_eq _ 2 (by decide), mixR_eq, Option.bind_some]; rfl)
theorem FirstL.calls (w0 : World) : Calls Tryz.prog 43 #[] w0 fun e w' => e = .returned (.agg (nums .u32 (cl first))) ∧ Low w0 w' := sha1_First.calls w0
theorem FirstR.calls (w0 : World) : Calls Tryz.prog 53 #[] w0 fun e w' => e = .returned (.agg (nums .u32 (cl first))) ∧ Low w0 w' := diptychref02_First.calls w0
end Go.Proofs.YtfjhnnpdaggnbaaGreatDoor.Q
end
/-! A1 -/
section
namespace Go.Proofs.YtfjhnnpdaggnbaaGreatDoor.Q
open Go.RowKit Go.Proofs.YtfjhnnpdaggnbaaGreatDoor.P
set_option linter.unusedVariables false
set_option linter.unusedSimpArgs false
set_option maxRecDepth 100000
set_option maxHeartbeats 4000000
attribute [local irreducible] wpList wpQuiet qch Code.wp Oper.quiet Act.put At Region.wanted yielded
theorem sz64 : (Tryz.prog.info? 64).map (·.size) = some 1 := by kernel_rfl
theorem info64 : (Tryz.prog.info? 64).isSome = true := by kernel_rfl
theorem cells64 : Tryz.prog.cellsOf 64 = 1 := by kernel_rfl
theorem sz69 : (Tryz.prog.info? 69).map (·.size) = some 5 := by kernel_rfl
theorem zero69 : ∀ w, (zeroValue 69).run Tryz.prog w = .ok (.agg (nums .u32 (List.replicate 5 0))) w := (zero_of_info (P := Tryz.prog) (n := 5) (by kernel_rfl)).1
theorem sz68 : (Tryz.prog.info? 68).map (·.size) = some 5 := by kernel_rfl
theorem zero68 : ∀ w, (zeroValue 68).run Tryz.prog w = .ok (.agg (nums .u32 (List.replicate 5 0))) w := (zero_of_info (P := Tryz.prog) (n := 5) (by kernel_rfl)).1
theorem sz66 : (Tryz.prog.info? 66).map (·.size) = some 80 := by kernel_rfl
theorem zero66 : ∀ w, (zeroValue 66).run Tryz.prog w = .ok (.agg (nums .u32 (List.replicate 80 0))) w := (zero_of_info (P := Tryz.prog) (n := 80) (by kernel_rfl)).1
theorem sz65 : (Tryz.prog.info? 65).map (·.size) = some 80 := by kernel_rfl
theorem zero65 : ∀ w, (zeroValue 65).run Tryz.prog w = .ok (.agg (nums .u32 (List.replicate 80 0))) w := (zero_of_info (P := Tryz.prog) (n := 80) (by kernel_rfl)).1
theorem sz90 : (Tryz.prog.info? 90).map (·.size) = some 85 := by kernel_rfl
theorem zero90 : ∀ w, (zeroValue 90).run Tryz.prog w = .ok (.agg (nums .u32 (List.replicate 85 0))) w := (zero_of_info (P := Tryz.prog) (n := 85) (by kernel_rfl)).1
/-- the reference's words: a byte more -/
def exR1 (s : ByteArray) (t : Nat) (l : List Int) : Nat → List Int
  | 0 => l
  | m + 1 => let l1 := (exR1 s t l m).set t (IntKind.u32.wrap ((exR1 s t l m).getD t 0 * 256)); if h : 4 * t + m < s.size then l1.set t (IntKind.u32.wrap (l1.getD t 0 + IntKind.u32.wrap (s[4 * t + m].toNat : Int))) else l1
theorem exR1_len (s : ByteArray) (t : Nat) (l : List Int) (h : l.length = 80) : ∀ m, (exR1 s t l m).length = 80
  | 0 => h
  | m + 1 => by
    unfold exR1
    simp only
    split <;> simp only [List.length_set, exR1_len s t l h m]
theorem exR1_yes (s : ByteArray) (t m : Nat) (l : List Int) (h : 4 * t + m < s.size) : exR1 s t l (m + 1) = ((exR1 s t l m).set t (IntKind.u32.wrap ((exR1 s t l m).getD t 0 * 256))).set t (IntKind.u32.wrap (((exR1 s t l m).set t (IntKind.u32.wrap ((exR1 s t l m).getD t 0 * 256))).getD t 0 + IntKind.u32.wrap (s[4 * t + m].toNat : Int))) := by
  show (if h : 4 * t + m < s.size then _ else _) = _
  rw [dif_pos h]
theorem exR1_no (s : ByteArray) (t m : Nat) (l : List Int) (h : ¬ 4 * t + m < s.size) : exR1 s t l (m + 1) = (exR1 s t l m).set t (IntKind.u32.wrap ((exR1 s t l m).getD t 0 * 256)) := by
  show (if h : 4 * t + m < s.size then _ else _) = _
  rw [dif_neg h]
def exR (s : ByteArray) : Nat → List Int
  | 0 => List.replicate 80 0
  | k + 1 => exR1 s k (exR s k) 4
theorem exR_len (s : ByteArray) : ∀ k, (exR s k).length = 80
  | 0 => List.length_replicate
  | k + 1 => exR1_len s k _ (exR_len s k) 4
def exR2 (l : List Int) : Nat → List Int
  | 0 => l
  | d + 1 => (exR2 l d).set (d + 16) (rotr (Go.bits .xor .u32 (Go.bits .xor .u32 (Go.bits .xor .u32 ((exR2 l d).getD (d + 13) 0) ((exR2 l d).getD (d + 8) 0)) ((exR2 l d).getD (d + 2) 0)) ((exR2 l d).getD d 0)) 1)
theorem exR2_len (l : List Int) (h : l.length = 80) : ∀ d, (exR2 l d).length = 80
  | 0 => h
  | d + 1 => by rw [exR2, List.length_set, exR2_len l h d]
def expandR (s : ByteArray) : List Int := exR2 (exR s 16) 64
theorem expandR_len (s : ByteArray) : (expandR s).length = 80 := exR2_len _ (exR_len s 16) 64
def stepsR (l : List Int) (x : Ch) : Nat → Ch
  | 0 => x
  | k + 1 => stepR (stepsR l x k) (k : Nat) (l.getD k 0)
def addL (a b : List Int) : Nat → List Int
  | 0 => a
  | k + 1 => (addL a b k).set k (IntKind.u32.wrap ((addL a b k).getD k 0 + b.getD k 0))
theorem addL_len (a b : List Int) : ∀ k, (addL a b k).length = a.length
  | 0 => rfl
  | k + 1 => by rw [addL, List.length_set, addL_len a b k]
def pressR (c : Ch) (s : ByteArray) : List Int := addL (cl c) (cl (stepsR (expandR s) c 80)) 5
theorem ExpandR.calls (s : ByteArray) (hs : s.size ≤ 9223372036854775807) (w0 : World) : Calls Tryz.prog 70 #[.string s] w0 fun e w' => e = .returned (.agg (nums .u32 (expandR s))) ∧ Low w0 w' := by
 refine c_fun (R := _) Tryz.func70 rfl 68 rfl (Nat.le_of_ble_eq_true rfl) ?_
 intro a z hA
 have s0 := hA 0 _ rfl
 clear hA
 refine c_seq (c_region (l_alloc rfl rfl zero65 ?_))
 intro g2 w1 hg1 k1 h1
 have geg2 := Nat.le_trans (Low.refl _).ge hg1
 refine l_end (e_fresh z.put ?_)
 intro a2 z2 m2
 have s0_2 := m2 _ _ (s0.n1)
 have s2_2 := m2 _ _ (At.hit z rfl)
 have low2 := h1
 clear m2
 refine e_then (c_seq (c_region (l_alloc rfl rfl zero65 ?_)))
 intro g3 w3 hg3 k3 h3
 have lt_g2_g3 := Nat.lt_of_lt_of_le (heap_lt k1) hg3
 have geg3 := Nat.le_trans low2.ge hg3
 have kg2_3 := h3.blk k1
 refine l_end (e_fresh z2.put ?_)
 intro a4 z4 m4
 have s0_4 := m4 _ _ (s0_2.n1)
 have s2_4 := m4 _ _ (s2_2.n1)
 have s3_4 := m4 _ _ (At.hit z2 rfl)
 have low4 := (low2.trans h3)
 clear m4
 refine e_then (c_seq (c_seq (c_region ?_)))
 refine l_q rfl (q_assign _ _ rfl rfl ?_)
 refine l_end (e_fresh z4.put ?_)
 intro a5 z5 m5
 have s0_5 := m5 _ _ (s0_4.n1)
 have s2_5 := m5 _ _ (s2_4.n1)
 have s3_5 := m5 _ _ (s3_4.n1)
 have s4_5 := m5 _ _ (At.hit z4 rfl)
 clear m5
 refine e_then (wp_block (c_loop 16 (fun t a w => Fr 68 a ∧ At a 0 (.string s) ∧ At a 2 (.pointer (some ⟨g2, 0, none⟩)) ∧ At a 3 (.pointer (some ⟨g3, 0, none⟩)) ∧ At a 4 (.int .i64 ((t : Nat) : Int)) ∧ w.heap[g2]? = some (.cells (nums .u32 (List.replicate 80 0)) 65) ∧ w.heap[g3]? = some (.cells (nums .u32 (exR s t)) 65) ∧ Low w0 w) ?_ ?_ ?_))
 ·
  exact ⟨z5, s0_5, s2_5, s3_5, s4_5, kg2_3, k3, low4⟩
 ·
  intro t a6 w6 hk6 h
  obtain ⟨z6, s0_6, s2_6, s3_6, s4_6, kg2_6, kg3_6, low6⟩ := h
  clear k3 kg2_3 low4 s0_5 s2_5 s3_5 s4_5 z5
  refine c_seq (c_seq (c_region ?_))
  refine l_q rfl (q_move _ _ rfl s4_6.ev ?_)
  refine l_q rfl (q_lss true rfl (At.hit z6 rfl).ev rfl (decide_eq_true (by omega)) ?_)
  refine l_end (e_fresh z6.p2 ?_)
  intro a7 z7 m7
  have s0_7 := m7 _ _ (s0_6.n2)
  have s2_7 := m7 _ _ (s2_6.n2)
  have s3_7 := m7 _ _ (s3_6.n2)
  have s4_7 := m7 _ _ (s4_6.n2)
  have s8_7 := m7 _ _ (At.hit z6.put rfl)
  clear m7
  refine e_then (c_true s8_7 ?_)
  refine wp_skip (e_then (c_seq (wp_block (c_seq (c_region ?_)))))
  refine l_q rfl (q_assign _ _ rfl rfl ?_)
  refine l_end (e_fresh z7.put ?_)
  intro a8 z8 m8
  have s0_8 := m8 _ _ (s0_7.n1)
  have s2_8 := m8 _ _ (s2_7.n1)
  have s3_8 := m8 _ _ (s3_7.n1)
  have s4_8 := m8 _ _ (s4_7.n1)
  have s5_8 := m8 _ _ (At.hit z7 rfl)
  clear m8
  refine e_then (wp_block (c_loop 4 (fun m a w => Fr 68 a ∧ At a 0 (.string s) ∧ At a 2 (.pointer (some ⟨g2, 0, none⟩)) ∧ At a 3 (.pointer (some ⟨g3, 0, none⟩)) ∧ At a 4 (.int .i64 ((t : Nat) : Int)) ∧ At a 5 (.int .i64 ((m : Nat) : Int)) ∧ w.heap[g2]? = some (.cells (nums .u32 (List.replicate 80 0)) 65) ∧ w.heap[g3]? = some (.cells (nums .u32 (exR1 s t (exR s t) m)) 65) ∧ Low w0 w) ?_ ?_ ?_))
  ·
   exact ⟨z8, s0_8, s2_8, s3_8, s4_8, s5_8, kg2_6, kg3_6, low6⟩
  ·
   intro m a9 w9 hk9 h
   obtain ⟨z9, s0_9, s2_9, s3_9, s4_9, s5_9, kg2_9, kg3_9, low9⟩ := h
   clear kg2_6 kg3_6 low6 s0_8 s2_8 s3_8 s4_8 s5_8 z8
   refine c_seq (c_seq (c_region ?_))
   refine l_q rfl (q_move _ _ rfl s5_9.ev ?_)
   refine l_q rfl (q_lss true rfl (At.hit z9 rfl).ev rfl (decide_eq_true (by omega)) ?_)
   refine l_end (e_fresh z9.p2 ?_)
   intro a10 z10 m10
   have s0_10 := m10 _ _ (s0_9.n2)
   have s2_10 := m10 _ _ (s2_9.n2)
   have s3_10 := m10 _ _ (s3_9.n2)
   have s4_10 := m10 _ _ (s4_9.n2)
   have s5_10 := m10 _ _ (s5_9.n2)
   have s12_10 := m10 _ _ (At.hit z9.put rfl)
   clear m10
   refine e_then (c_true s12_10 ?_)
   refine wp_skip (e_then (c_seq (wp_block (c_seq (c_region ?_)))))
   refine l_q rfl (q_move _ _ rfl s4_10.ev ?_)
   refine l_q rfl (q_move _ _ rfl (s4_10.n1).ev ?_)
   refine l_q rfl (q_idx (j := t) rfl Tryz.underlying65 sz64 (s3_10.n2).ev (At.hit z10.put rfl).ev (by omega) ?_)
   refine l_q rfl (q_cell (.int .u32 ((exR1 s t (exR s t) m).getD t 0)) rfl Tryz.underlying64 (At.hit z10.p2 rfl).ev (fun _ e => by rw [e]; exact nums_cell kg3_9 t (by rw [(exR1_len s t _ (exR_len s t) m)]; omega)) ?_)
   refine l_q rfl (q_mul _ rfl (At.hit z10.p3 rfl).ev rfl rfl ?_)
   refine l_q rfl (q_idx (j := t) rfl Tryz.underlying65 sz64 (s3_10.n5).ev ((At.hit z10 rfl).n4).ev (by omega) ?_)
   refine l_cell (j := t) (v := .int .u32 (IntKind.u32.wrap (((exR1 s t (exR s t) m).getD t 0) * 256))) rfl rfl rfl sz64 (At.hit z10.p5 rfl).ev ((At.hit z10.p4 rfl).n1).ev rfl kg3_9 (by rw [(nums_size _ _).trans (exR1_len s t _ (exR_len s t) m)]; omega) ?_
   intro w11 k11 u11
   rw [nums_put] at k11
   have kg2_11 := u11.blk kg2_9 (by omega)
   refine l_end (e_fresh z10.p6 ?_)
   intro a12 z12 m12
   have s0_12 := m12 _ _ (s0_10.n6)
   have s2_12 := m12 _ _ (s2_10.n6)
   have s3_12 := m12 _ _ (s3_10.n6)
   have s4_12 := m12 _ _ (s4_10.n6)
   have s5_12 := m12 _ _ (s5_10.n6)
   have low12 := (low9.upd u11 geg3)
   clear m12
   refine e_then (c_seq ?_)
   by_cases hb13 : 4 * t + m < s.size
   ·
    skip
    refine c_region ?_
    refine l_q rfl (q_move _ _ rfl s4_12.ev ?_)
    refine l_q rfl (q_mul (((4 * t : Nat) : Int)) rfl rfl (At.hit z12 rfl).ev (i64_is (by omega) (by omega) (by omega)) ?_)
    refine l_q rfl (q_move _ _ rfl (s5_12.n2).ev ?_)
    refine l_q rfl (q_add (((4 * t + m : Nat) : Int)) rfl ((At.hit z12.put rfl).n1).ev (At.hit z12.p2 rfl).ev (i64_is (by omega) (by omega) (by omega)) ?_)
    refine l_q rfl (q_move _ _ rfl (s0_12.n4).ev ?_)
    refine l_q rfl (q_len rfl rfl Tryz.underlying9 (At.hit z12.p4 rfl).ev ?_)
    refine l_q rfl (q_lss true rfl ((At.hit z12.p3 rfl).n2).ev (At.hit z12.p5 rfl).ev (decide_eq_true (by omega)) ?_)
    refine l_end (e_fresh z12.p7 ?_)
    intro a14 z14 m14
    have s0_14 := m14 _ _ (s0_12.n7)
    have s2_14 := m14 _ _ (s2_12.n7)
    have s3_14 := m14 _ _ (s3_12.n7)
    have s4_14 := m14 _ _ (s4_12.n7)
    have s5_14 := m14 _ _ (s5_12.n7)
    have s27_14 := m14 _ _ (At.hit z12.p6 rfl)
    clear m14
    refine e_then (c_true s27_14 ?_)
    refine region_low_tail 13 hm (by kernel_rfl) ?_
    simp only [List.take_succ_cons, List.take_zero, List.drop_succ_cons, List.drop_zero]
    refine qs (q_move _ _ rfl s4_14.ev ?_)
    refine qs (q_move _ _ rfl (s4_14.n1).ev ?_)
    refine qs (q_idx (j := t) rfl Tryz.underlying65 sz64 (s3_14.n2).ev (At.hit z14.put rfl).ev (by omega) ?_)
    refine qs (q_cell (.int .u32 (((exR1 s t (exR s t) m).set t (IntKind.u32.wrap (((exR1 s t (exR s t) m).getD t 0) * 256))).getD t 0)) rfl Tryz.underlying64 (At.hit z14.p2 rfl).ev (fun _ h => nums_cell (h.blk k11) t (by rw [((List.length_set ..).trans (exR1_len s t _ (exR_len s t) m))]; omega)) ?_)
    refine qs (q_move _ _ rfl (s0_14.n4).ev ?_)
    refine qs (q_move _ _ rfl (s4_14.n5).ev ?_)
    refine qs (q_mul (((4 * t : Nat) : Int)) rfl rfl (At.hit z14.p5 rfl).ev (i64_is (by omega) (by omega) (by omega)) ?_)
    refine qs (q_move _ _ rfl (s5_14.n7).ev ?_)
    refine q_fresh z14.p8 ?_
    intro a15 z15 m15
    have s0_15 := m15 _ _ (s0_14.n8)
    have s2_15 := m15 _ _ (s2_14.n8)
    have s3_15 := m15 _ _ (s3_14.n8)
    have s4_15 := m15 _ _ (s4_14.n8)
    have s5_15 := m15 _ _ (s5_14.n8)
    have s28_15 := m15 _ _ ((At.hit z14 rfl).n7)
    have s31_15 := m15 _ _ ((At.hit z14.p3 rfl).n4)
    have s32_15 := m15 _ _ ((At.hit z14.p4 rfl).n3)
    have s34_15 := m15 _ _ ((At.hit z14.p6 rfl).n1)
    have s35_15 := m15 _ _ (At.hit z14.p7 rfl)
    clear m15
    refine qs (q_add (((4 * t + m : Nat) : Int)) rfl s34_15.ev s35_15.ev (i64_is (by omega) (by omega) (by omega)) ?_)
    refine qs (q_stridx (j := 4 * t + m) rfl Tryz.underlying9 (s32_15.n1).ev (At.hit z15 rfl).ev (by omega) ?_)
    refine qs (q_conv _ rfl (At.hit z15.put rfl).ev Tryz.underlying5 Tryz.underlying64 rfl ?_)
    refine qs (q_add _ rfl (s31_15.n3).ev (At.hit z15.p2 rfl).ev rfl ?_)
    refine qs (q_idx (j := t) rfl Tryz.underlying65 sz64 (s3_15.n4).ev (s28_15.n4).ev (by omega) ?_)
    refine qz ?_
    intro w16 h16
    have kg2_16 := h16.blk kg2_11
    have kg3_16 := h16.blk k11
    refine l_cell (j := t) (v := .int .u32 (IntKind.u32.wrap ((((exR1 s t (exR s t) m).set t (IntKind.u32.wrap (((exR1 s t (exR s t) m).getD t 0) * 256))).getD t 0) + (IntKind.u32.wrap ((s[4 * t + m]'(by omega)).toNat : Int))))) rfl rfl rfl sz64 (At.hit z15.p4 rfl).ev ((At.hit z15.p3 rfl).n1).ev rfl kg3_16 (by rw [(nums_size _ _).trans ((List.length_set ..).trans (exR1_len s t _ (exR_len s t) m))]; omega) ?_
    intro w17 k17 u17
    rw [nums_put] at k17
    have kg2_17 := u17.blk kg2_16 (by omega)
    refine l_end (e_fresh z15.p5 ?_)
    intro a18 z18 m18
    have s0_18 := m18 _ _ (s0_15.n5)
    have s2_18 := m18 _ _ (s2_15.n5)
    have s3_18 := m18 _ _ (s3_15.n5)
    have s4_18 := m18 _ _ (s4_15.n5)
    have s5_18 := m18 _ _ (s5_15.n5)
    have low18 := ((low12.trans h16).upd u17 geg3)
    clear m18
    refine e_in (e_then (c_region ?_))
    refine l_q rfl (q_move _ _ rfl s5_18.ev ?_)
    refine l_q rfl (q_add (((m + 1 : Nat) : Int)) rfl (At.hit z18 rfl).ev rfl (i64_is (by omega) (by omega) (by omega)) ?_)
    refine l_q rfl (q_assign _ _ rfl (At.hit z18.put rfl).ev ?_)
    refine l_end (e_fresh z18.p3 ?_)
    intro a19 z19 m19
    have s0_19 := m19 _ _ (s0_18.n3)
    have s2_19 := m19 _ _ (s2_18.n3)
    have s3_19 := m19 _ _ (s3_18.n3)
    have s4_19 := m19 _ _ (s4_18.n3)
    have s5_19 := m19 _ _ (At.hit z18.p2 rfl)
    clear m19
    rw [← exR1_yes s t m _ hb13] at k17; exact ⟨z19, s0_19, s2_19, s3_19, s4_19, s5_19, kg2_17, k17, low18⟩
   ·
    skip
    refine c_region ?_
    refine l_q rfl (q_move _ _ rfl s4_12.ev ?_)
    refine l_q rfl (q_mul (((4 * t : Nat) : Int)) rfl rfl (At.hit z12 rfl).ev (i64_is (by omega) (by omega) (by omega)) ?_)
    refine l_q rfl (q_move _ _ rfl (s5_12.n2).ev ?_)
    refine l_q rfl (q_add (((4 * t + m : Nat) : Int)) rfl ((At.hit z12.put rfl).n1).ev (At.hit z12.p2 rfl).ev (i64_is (by omega) (by omega) (by omega)) ?_)
    refine l_q rfl (q_move _ _ rfl (s0_12.n4).ev ?_)
    refine l_q rfl (q_len rfl rfl Tryz.underlying9 (At.hit z12.p4 rfl).ev ?_)
    refine l_q rfl (q_lss false rfl ((At.hit z12.p3 rfl).n2).ev (At.hit z12.p5 rfl).ev (decide_eq_false (by omega)) ?_)
    refine l_end (e_fresh z12.p7 ?_)
    intro a20 z20 m20
    have s0_20 := m20 _ _ (s0_12.n7)
    have s2_20 := m20 _ _ (s2_12.n7)
    have s3_20 := m20 _ _ (s3_12.n7)
    have s4_20 := m20 _ _ (s4_12.n7)
    have s5_20 := m20 _ _ (s5_12.n7)
    have s27_20 := m20 _ _ (At.hit z12.p6 rfl)
    clear m20
    refine e_then (c_false s27_20 ?_)
    refine wp_skip (e_in (e_then (c_region ?_)))
    refine l_q rfl (q_move _ _ rfl s5_20.ev ?_)
    refine l_q rfl (q_add (((m + 1 : Nat) : Int)) rfl (At.hit z20 rfl).ev rfl (i64_is (by omega) (by omega) (by omega)) ?_)
    refine l_q rfl (q_assign _ _ rfl (At.hit z20.put rfl).ev ?_)
    refine l_end (e_fresh z20.p3 ?_)
    intro a21 z21 m21
    have s0_21 := m21 _ _ (s0_20.n3)
    have s2_21 := m21 _ _ (s2_20.n3)
    have s3_21 := m21 _ _ (s3_20.n3)
    have s4_21 := m21 _ _ (s4_20.n3)
    have s5_21 := m21 _ _ (At.hit z20.p2 rfl)
    clear m21
    rw [← exR1_no s t m _ hb13] at k11; exact ⟨z21, s0_21, s2_21, s3_21, s4_21, s5_21, kg2_11, k11, low12⟩
  ·
   intro a22 w22 h
   obtain ⟨z22, s0_22, s2_22, s3_22, s4_22, s5_22, kg2_22, kg3_22, low22⟩ := h
   clear kg2_6 kg3_6 low6 s0_8 s2_8 s3_8 s4_8 s5_8 z8
   refine c_seq (c_seq (c_region ?_))
   refine l_q rfl (q_move _ _ rfl s5_22.ev ?_)
   refine l_q rfl (q_lss false rfl (At.hit z22 rfl).ev rfl (decide_eq_false (by omega)) ?_)
   refine l_end (e_fresh z22.p2 ?_)
   intro a23 z23 m23
   have s0_23 := m23 _ _ (s0_22.n2)
   have s2_23 := m23 _ _ (s2_22.n2)
   have s3_23 := m23 _ _ (s3_22.n2)
   have s4_23 := m23 _ _ (s4_22.n2)
   have s5_23 := m23 _ _ (s5_22.n2)
   have s12_23 := m23 _ _ (At.hit z22.put rfl)
   clear m23
   refine e_then (c_false s12_23 ?_)
   refine wp_exit (x_then (x_then (in_exit (e_in (e_then (c_region ?_))))))
   refine l_q rfl (q_move _ _ rfl s4_23.ev ?_)
   refine l_q rfl (q_add (((t + 1 : Nat) : Int)) rfl (At.hit z23 rfl).ev rfl (i64_is (by omega) (by omega) (by omega)) ?_)
   refine l_q rfl (q_assign _ _ rfl (At.hit z23.put rfl).ev ?_)
   refine l_end (e_fresh z23.p3 ?_)
   intro a24 z24 m24
   have s0_24 := m24 _ _ (s0_23.n3)
   have s2_24 := m24 _ _ (s2_23.n3)
   have s3_24 := m24 _ _ (s3_23.n3)
   have s4_24 := m24 _ _ (At.hit z23.p2 rfl)
   clear m24
   exact ⟨z24, s0_24, s2_24, s3_24, s4_24, kg2_22, kg3_22, low22⟩
 ·
  intro a25 w25 h
  obtain ⟨z25, s0_25, s2_25, s3_25, s4_25, kg2_25, kg3_25, low25⟩ := h
  clear k3 kg2_3 low4 s0_5 s2_5 s3_5 s4_5 z5
  refine c_seq (c_seq (c_region ?_))
  refine l_q rfl (q_move _ _ rfl s4_25.ev ?_)
  refine l_q rfl (q_lss false rfl (At.hit z25 rfl).ev rfl (decide_eq_false (by omega)) ?_)
  refine l_end (e_fresh z25.p2 ?_)
  intro a26 z26 m26
  have s0_26 := m26 _ _ (s0_25.n2)
  have s2_26 := m26 _ _ (s2_25.n2)
  have s3_26 := m26 _ _ (s3_25.n2)
  have s4_26 := m26 _ _ (s4_25.n2)
  have s8_26 := m26 _ _ (At.hit z25.put rfl)
  clear m26
  refine e_then (c_false s8_26 ?_)
  refine wp_exit (x_then (x_then (in_exit (e_then (c_seq (c_seq (c_region ?_)))))))
  refine l_q rfl (q_assign _ _ rfl rfl ?_)
  refine l_end (e_fresh z26.put ?_)
  intro a27 z27 m27
  have s2_27 := m27 _ _ (s2_26.n1)
  have s3_27 := m27 _ _ (s3_26.n1)
  have s6_27 := m27 _ _ (At.hit z26 rfl)
  clear m27
  refine e_then (wp_block (c_loop 64 (fun d a w => Fr 68 a ∧ At a 2 (.pointer (some ⟨g2, 0, none⟩)) ∧ At a 3 (.pointer (some ⟨g3, 0, none⟩)) ∧ At a 6 (.int .i64 ((d + 16 : Nat) : Int)) ∧ w.heap[g2]? = some (.cells (nums .u32 (List.replicate 80 0)) 65) ∧ w.heap[g3]? = some (.cells (nums .u32 (exR2 (exR s 16) d)) 65) ∧ Low w0 w) ?_ ?_ ?_))
  ·
   exact ⟨z27, s2_27, s3_27, (s6_27.same (congrArg (Value.int .i64) (by omega))), kg2_25, kg3_25, low25⟩
  ·
   intro d a28 w28 hk28 h
   obtain ⟨z28, s2_28, s3_28, s6_28, kg2_28, kg3_28, low28⟩ := h
   clear kg2_25 kg3_25 low25 s2_27 s3_27 s6_27 z27
   refine c_seq (c_seq (c_region ?_))
   refine l_q rfl (q_move _ _ rfl s6_28.ev ?_)
   refine l_q rfl (q_lss true rfl (At.hit z28 rfl).ev rfl (decide_eq_true (by omega)) ?_)
   refine l_end (e_fresh z28.p2 ?_)
   intro a29 z29 m29
   have s2_29 := m29 _ _ (s2_28.n2)
   have s3_29 := m29 _ _ (s3_28.n2)
   have s6_29 := m29 _ _ (s6_28.n2)
   have s42_29 := m29 _ _ (At.hit z28.put rfl)
   clear m29
   refine e_then (c_true s42_29 ?_)
   refine wp_skip (e_then (c_seq (wp_block (region_low_tail 22 hm (by kernel_rfl) ?_))))
   simp only [List.take_succ_cons, List.take_zero, List.drop_succ_cons, List.drop_zero]
   refine qs (q_move _ _ rfl s6_29.ev ?_)
   refine qs (q_move _ _ rfl (s6_29.n1).ev ?_)
   refine qs (q_sub (((d + 13 : Nat) : Int)) rfl (At.hit z29.put rfl).ev rfl (i64_is (by omega) (by omega) (by omega)) ?_)
   refine qs (q_idx (j := d + 13) rfl Tryz.underlying65 sz64 (s3_29.n3).ev (At.hit z29.p2 rfl).ev (by omega) ?_)
   refine qs (q_cell (.int .u32 ((exR2 (exR s 16) d).getD (d + 13) 0)) rfl Tryz.underlying64 (At.hit z29.p3 rfl).ev (fun _ h => nums_cell (h.blk kg3_28) (d + 13) (by rw [(exR2_len _ (exR_len s 16) d)]; omega)) ?_)
   refine qs (q_move _ _ rfl (s6_29.n5).ev ?_)
   refine qs (q_sub (((d + 8 : Nat) : Int)) rfl (At.hit z29.p5 rfl).ev rfl (i64_is (by omega) (by omega) (by omega)) ?_)
   refine qs (q_idx (j := d + 8) rfl Tryz.underlying65 sz64 (s3_29.n7).ev (At.hit z29.p6 rfl).ev (by omega) ?_)
   refine q_fresh z29.p8 ?_
   intro a30 z30 m30
   have s2_30 := m30 _ _ (s2_29.n8)
   have s3_30 := m30 _ _ (s3_29.n8)
   have s6_30 := m30 _ _ (s6_29.n8)
   have s45_30 := m30 _ _ ((At.hit z29 rfl).n7)
   have s49_30 := m30 _ _ ((At.hit z29.p4 rfl).n3)
   have s52_30 := m30 _ _ (At.hit z29.p7 rfl)
   clear m30
   refine qs (q_cell (.int .u32 ((exR2 (exR s 16) d).getD (d + 8) 0)) rfl Tryz.underlying64 s52_30.ev (fun _ h => nums_cell (h.blk kg3_28) (d + 8) (by rw [(exR2_len _ (exR_len s 16) d)]; omega)) ?_)
   refine qs (q_xor rfl (s49_30.n1).ev (At.hit z30 rfl).ev ?_)
   refine qs (q_move _ _ rfl (s6_30.n2).ev ?_)
   refine qs (q_sub (((d + 2 : Nat) : Int)) rfl (At.hit z30.p2 rfl).ev rfl (i64_is (by omega) (by omega) (by omega)) ?_)
   refine qs (q_idx (j := d + 2) rfl Tryz.underlying65 sz64 (s3_30.n4).ev (At.hit z30.p3 rfl).ev (by omega) ?_)
   refine qs (q_cell (.int .u32 ((exR2 (exR s 16) d).getD (d + 2) 0)) rfl Tryz.underlying64 (At.hit z30.p4 rfl).ev (fun _ h => nums_cell (h.blk kg3_28) (d + 2) (by rw [(exR2_len _ (exR_len s 16) d)]; omega)) ?_)
   refine qs (q_xor rfl ((At.hit z30.put rfl).n4).ev (At.hit z30.p5 rfl).ev ?_)
   refine qs (q_move _ _ rfl (s6_30.n7).ev ?_)
   refine q_fresh z30.p8 ?_
   intro a31 z31 m31
   have s2_31 := m31 _ _ (s2_30.n8)
   have s3_31 := m31 _ _ (s3_30.n8)
   have s6_31 := m31 _ _ (s6_30.n8)
   have s45_31 := m31 _ _ (s45_30.n8)
   have s59_31 := m31 _ _ ((At.hit z30.p6 rfl).n1)
   have s60_31 := m31 _ _ (At.hit z30.p7 rfl)
   clear m31
   refine qs (q_sub (((d : Nat) : Int)) rfl s60_31.ev rfl (i64_is (by omega) (by omega) (by omega)) ?_)
   refine qs (q_idx (j := d) rfl Tryz.underlying65 sz64 (s3_31.n1).ev (At.hit z31 rfl).ev (by omega) ?_)
   refine qs (q_cell (.int .u32 ((exR2 (exR s 16) d).getD d 0)) rfl Tryz.underlying64 (At.hit z31.put rfl).ev (fun _ h => nums_cell (h.blk kg3_28) d (by rw [(exR2_len _ (exR_len s 16) d)]; omega)) ?_)
   refine qs (q_xor rfl (s59_31.n3).ev (At.hit z31.p2 rfl).ev ?_)
   refine qs (q_call (.int .u32 (rotr (Go.bits .xor .u32 (Go.bits .xor .u32 (Go.bits .xor .u32 ((exR2 (exR s 16) d).getD (d + 13) 0) ((exR2 (exR s 16) d).getD (d + 8) 0)) ((exR2 (exR s 16) d).getD (d + 2) 0)) ((exR2 (exR s 16) d).getD d 0)) 1)) rfl rfl Tryz.func84 rfl (args2 rfl (At.hit z31.p3 rfl).ev rfl) (fun _ h => (RotR.calls (Go.bits .xor .u32 (Go.bits .xor .u32 (Go.bits .xor .u32 ((exR2 (exR s 16) d).getD (d + 13) 0) ((exR2 (exR s 16) d).getD (d + 8) 0)) ((exR2 (exR s 16) d).getD (d + 2) 0)) ((exR2 (exR s 16) d).getD d 0)) 1 (by omega) _).mono fun _ _ ⟨e, k⟩ => ⟨e, h.trans k⟩) ?_)
   refine qs (q_idx (j := d + 16) rfl Tryz.underlying65 sz64 (s3_31.n5).ev (s45_31.n5).ev (by omega) ?_)
   refine qz ?_
   intro w32 h32
   have kg2_32 := h32.blk kg2_28
   have kg3_32 := h32.blk kg3_28
   refine l_cell (j := (d + 16)) (v := .int .u32 (rotr (Go.bits .xor .u32 (Go.bits .xor .u32 (Go.bits .xor .u32 ((exR2 (exR s 16) d).getD (d + 13) 0) ((exR2 (exR s 16) d).getD (d + 8) 0)) ((exR2 (exR s 16) d).getD (d + 2) 0)) ((exR2 (exR s 16) d).getD d 0)) 1)) rfl rfl rfl sz64 (At.hit z31.p5 rfl).ev ((At.hit z31.p4 rfl).n1).ev rfl kg3_32 (by rw [(nums_size _ _).trans (exR2_len _ (exR_len s 16) d)]; omega) ?_
   intro w33 k33 u33
   rw [nums_put] at k33
   have kg2_33 := u33.blk kg2_32 (by omega)
   refine l_end (e_fresh z31.p6 ?_)
   intro a34 z34 m34
   have s2_34 := m34 _ _ (s2_31.n6)
   have s3_34 := m34 _ _ (s3_31.n6)
   have s6_34 := m34 _ _ (s6_31.n6)
   have low34 := ((low28.trans h32).upd u33 geg3)
   clear m34
   refine e_in (e_then (c_region ?_))
   refine l_q rfl (q_move _ _ rfl s6_34.ev ?_)
   refine l_q rfl (q_add (((d + 17 : Nat) : Int)) rfl (At.hit z34 rfl).ev rfl (i64_is (by omega) (by omega) (by omega)) ?_)
   refine l_q rfl (q_assign _ _ rfl (At.hit z34.put rfl).ev ?_)
   refine l_end (e_fresh z34.p3 ?_)
   intro a35 z35 m35
   have s2_35 := m35 _ _ (s2_34.n3)
   have s3_35 := m35 _ _ (s3_34.n3)
   have s6_35 := m35 _ _ (At.hit z34.p2 rfl)
   clear m35
   exact ⟨z35, s2_35, s3_35, (s6_35.same (congrArg (Value.int .i64) (by omega))), kg2_33, k33, low34⟩
  ·
   intro a36 w36 h
   obtain ⟨z36, s2_36, s3_36, s6_36, kg2_36, kg3_36, low36⟩ := h
   clear kg2_25 kg3_25 low25 s2_27 s3_27 s6_27 z27
   refine c_seq (c_seq (c_region ?_))
   refine l_q rfl (q_move _ _ rfl s6_36.ev ?_)
   refine l_q rfl (q_lss false rfl (At.hit z36 rfl).ev rfl (decide_eq_false (by omega)) ?_)
   refine l_end (e_fresh z36.p2 ?_)
   intro a37 z37 m37
   have s2_37 := m37 _ _ (s2_36.n2)
   have s3_37 := m37 _ _ (s3_36.n2)
   have s6_37 := m37 _ _ (s6_36.n2)
   have s42_37 := m37 _ _ (At.hit z36.put rfl)
   clear m37
   refine e_then (c_false s42_37 ?_)
   refine wp_exit (x_then (x_then (in_exit (e_then (c_seq (c_region ?_))))))
   refine l_q rfl (q_row rfl Tryz.underlying65 rfl (sz65.trans (congrArg some ((nums_size _ _).trans (exR2_len _ (exR_len s 16) 64)).symm)) s3_37.ev (fun _ e => by rw [e]; exact kg3_36) ?_)
   refine l_row rfl rfl rfl (sz65.trans (congrArg some ((nums_size _ _).trans (exR2_len _ (exR_len s 16) 64)).symm)) (s2_37.n1).ev (At.hit z37 rfl).ev (nums_one _ _) kg2_36 (((nums_size _ _).trans (List.length_replicate)).trans ((nums_size _ _).trans (exR2_len _ (exR_len s 16) 64)).symm) ?_
   intro w38 k38 u38
   have kg3_38 := u38.blk kg3_36 (by omega)
   refine l_end (e_fresh z37.put ?_)
   intro a39 z39 m39
   have s2_39 := m39 _ _ (s2_37.n1)
   have low39 := (low36.upd u38 geg2)
   clear m39
   refine e_then (wp_ret (r_cell rfl z39.defers s2_39 k38 Tryz.underlying65 rfl (sz65.trans (congrArg some ((nums_size _ _).trans (exR2_len _ (exR_len s 16) 64)).symm)) ?_))
   exact ⟨rfl, low39⟩
theorem PressR.calls (c : Ch) (s : ByteArray) (hs : s.size ≤ 9223372036854775807) (w0 : World) : Calls Tryz.prog 55 #[.agg (nums .u32 (cl c)), .string s] w0 fun e w' => e = .returned (.agg (nums .u32 (pressR c s))) ∧ Low w0 w' := by
 refine c_fun (R := _) Tryz.func55 rfl 36 rfl (Nat.le_of_ble_eq_true rfl) ?_
 intro a z hA
 have s0 := hA 0 _ rfl
 have s1 := hA 1 _ rfl
 clear hA
 refine c_seq (c_region (l_box rfl rfl s0.ev ?_))
 intro g2 w1 hg1 k1 h1
 have geg2 := Nat.le_trans (Low.refl _).ge hg1
 refine l_alloc rfl rfl zero68 ?_
 intro g4 w2 hg2 k2 h2
 have lt_g2_g4 := Nat.lt_of_lt_of_le (heap_lt k1) hg2
 have geg4 := Nat.le_trans h1.ge hg2
 have kg2_2 := h2.blk k1
 refine l_end (e_fresh z.p2 ?_)
 intro a3 z3 m3
 have s1_3 := m3 _ _ (s1.n2)
 have s2_3 := m3 _ _ ((At.hit z rfl).n1)
 have s4_3 := m3 _ _ (At.hit z.put rfl)
 have low3 := (h1.trans h2)
 clear m3
 refine e_then (c_seq (c_region ?_))
 refine l_q rfl (q_move _ _ rfl s1_3.ev ?_)
 refine l_call (fun v w' => v = .agg (nums .u32 (expandR s)) ∧ Low w2 w') rfl rfl rfl Tryz.func70 rfl (args1 rfl (At.hit z3 rfl).ev) ((ExpandR.calls s hs _).mono fun _ _ ⟨e, k⟩ => ⟨_, e, rfl, k⟩) ?_
 rintro _ w4 ⟨rfl, h4⟩
 have kg2_4 := h4.blk kg2_2
 have kg4_4 := h4.blk k2
 refine l_alloc rfl rfl zero65 ?_
 intro g5 w5 hg5 k5 h5
 have lt_g2_g5 := Nat.lt_of_lt_of_le (heap_lt kg2_4) hg5
 have lt_g4_g5 := Nat.lt_of_lt_of_le (heap_lt kg4_4) hg5
 have geg5 := Nat.le_trans (low3.trans h4).ge hg5
 have kg2_5 := h5.blk kg2_4
 have kg4_5 := h5.blk kg4_4
 refine l_row rfl rfl rfl (sz65.trans (congrArg some ((nums_size _ _).trans (expandR_len s)).symm)) (At.hit z3.p2 rfl).ev ((At.hit z3.put rfl).n1).ev (nums_one _ _) k5 (((nums_size _ _).trans (List.length_replicate)).trans ((nums_size _ _).trans (expandR_len s)).symm) ?_
 intro w6 k6 u6
 have kg2_6 := u6.blk kg2_5 (by omega)
 have kg4_6 := u6.blk kg4_5 (by omega)
 refine l_end (e_fresh z3.p3 ?_)
 intro a7 z7 m7
 have s2_7 := m7 _ _ (s2_3.n3)
 have s4_7 := m7 _ _ (s4_3.n3)
 have s5_7 := m7 _ _ (At.hit z3.p2 rfl)
 have low7 := (((low3.trans h4).trans h5).upd u6 geg5)
 clear m7
 refine e_then (c_seq (c_region ?_))
 refine l_q rfl (q_row rfl Tryz.underlying68 rfl (sz68.trans (congrArg some ((nums_size _ _).trans (cl_len c)).symm)) s2_7.ev (fun _ e => by rw [e]; exact kg2_6) ?_)
 refine l_alloc rfl rfl zero68 ?_
 intro g6 w8 hg8 k8 h8
 have lt_g2_g6 := Nat.lt_of_lt_of_le (heap_lt kg2_6) hg8
 have lt_g4_g6 := Nat.lt_of_lt_of_le (heap_lt kg4_6) hg8
 have lt_g5_g6 := Nat.lt_of_lt_of_le (heap_lt k6) hg8
 have geg6 := Nat.le_trans low7.ge hg8
 have kg2_8 := h8.blk kg2_6
 have kg4_8 := h8.blk kg4_6
 have kg5_8 := h8.blk k6
 refine l_row rfl rfl rfl (sz68.trans (congrArg some ((nums_size _ _).trans (cl_len c)).symm)) (At.hit z7.put rfl).ev ((At.hit z7 rfl).n1).ev (nums_one _ _) k8 (((nums_size _ _).trans (List.length_replicate)).trans ((nums_size _ _).trans (cl_len c)).symm) ?_
 intro w9 k9 u9
 have kg2_9 := u9.blk kg2_8 (by omega)
 have kg4_9 := u9.blk kg4_8 (by omega)
 have kg5_9 := u9.blk kg5_8 (by omega)
 refine l_end (e_fresh z7.p2 ?_)
 intro a10 z10 m10
 have s2_10 := m10 _ _ (s2_7.n2)
 have s4_10 := m10 _ _ (s4_7.n2)
 have s5_10 := m10 _ _ (s5_7.n2)
 have s6_10 := m10 _ _ (At.hit z7.put rfl)
 have low10 := ((low7.trans h8).upd u9 geg6)
 clear m10
 refine e_then (c_seq (c_seq (c_region ?_)))
 refine l_q rfl (q_assign _ _ rfl rfl ?_)
 refine l_end (e_fresh z10.put ?_)
 intro a11 z11 m11
 have s2_11 := m11 _ _ (s2_10.n1)
 have s4_11 := m11 _ _ (s4_10.n1)
 have s5_11 := m11 _ _ (s5_10.n1)
 have s6_11 := m11 _ _ (s6_10.n1)
 have s7_11 := m11 _ _ (At.hit z10 rfl)
 clear m11
 refine e_then (wp_block (c_loop 80 (fun k a w => Fr 36 a ∧ At a 2 (.pointer (some ⟨g2, 0, none⟩)) ∧ At a 4 (.pointer (some ⟨g4, 0, none⟩)) ∧ At a 5 (.pointer (some ⟨g5, 0, none⟩)) ∧ At a 6 (.pointer (some ⟨g6, 0, none⟩)) ∧ At a 7 (.int .i64 ((k : Nat) : Int)) ∧ w.heap[g2]? = some (.cells (nums .u32 (cl c)) 68) ∧ w.heap[g4]? = some (.cells (nums .u32 (List.replicate 5 0)) 68) ∧ w.heap[g5]? = some (.cells (nums .u32 (expandR s)) 65) ∧ w.heap[g6]? = some (.cells (nums .u32 (cl (stepsR (expandR s) c k))) 68) ∧ Low w0 w) ?_ ?_ ?_))
 ·
  exact ⟨z11, s2_11, s4_11, s5_11, s6_11, s7_11, kg2_9, kg4_9, kg5_9, k9, low10⟩
 ·
  intro k a12 w12 hk12 h
  obtain ⟨z12, s2_12, s4_12, s5_12, s6_12, s7_12, kg2_12, kg4_12, kg5_12, kg6_12, low12⟩ := h
  clear k9 kg2_9 kg4_9 kg5_9 low10 s2_11 s4_11 s5_11 s6_11 s7_11 z11
  refine c_seq (c_seq (c_region ?_))
  refine l_q rfl (q_move _ _ rfl s7_12.ev ?_)
  refine l_q rfl (q_lss true rfl (At.hit z12 rfl).ev rfl (decide_eq_true (by omega)) ?_)
  refine l_end (e_fresh z12.p2 ?_)
  intro a13 z13 m13
  have s2_13 := m13 _ _ (s2_12.n2)
  have s4_13 := m13 _ _ (s4_12.n2)
  have s5_13 := m13 _ _ (s5_12.n2)
  have s6_13 := m13 _ _ (s6_12.n2)
  have s7_13 := m13 _ _ (s7_12.n2)
  have s13_13 := m13 _ _ (At.hit z12.put rfl)
  clear m13
  refine e_then (c_true s13_13 ?_)
  refine wp_skip (e_then (c_seq (wp_block (region_low_tail 6 hm (by kernel_rfl) ?_))))
  simp only [List.take_succ_cons, List.take_zero, List.drop_succ_cons, List.drop_zero]
  refine qs (q_row rfl Tryz.underlying68 rfl (sz68.trans (congrArg some ((nums_size _ _).trans (cl_len (stepsR (expandR s) c k))).symm)) s6_13.ev (fun _ h => h.blk kg6_12) ?_)
  refine qs (q_move _ _ rfl (s7_13.n1).ev ?_)
  refine qs (q_move _ _ rfl (s7_13.n2).ev ?_)
  refine qs (q_idx (j := k) rfl Tryz.underlying65 sz64 (s5_13.n3).ev (At.hit z13.p2 rfl).ev (by omega) ?_)
  refine qs (q_cell (.int .u32 ((expandR s).getD k 0)) rfl Tryz.underlying64 (At.hit z13.p3 rfl).ev (fun _ h => nums_cell (h.blk kg5_12) k (by rw [(expandR_len s)]; omega)) ?_)
  refine qs (q_call (.agg (nums .u32 (cl (stepR (stepsR (expandR s) c k) ((k : Nat) : Int) ((expandR s).getD k 0))))) rfl rfl Tryz.func71 rfl (args3 rfl ((At.hit z13 rfl).n4).ev ((At.hit z13.put rfl).n3).ev (At.hit z13.p4 rfl).ev) (fun _ h => (StepR.calls (stepsR (expandR s) c k) ((k : Nat) : Int) ((expandR s).getD k 0) _).mono fun _ _ ⟨e, k⟩ => ⟨e, h.trans k⟩) ?_)
  refine qz ?_
  intro w14 h14
  have kg2_14 := h14.blk kg2_12
  have kg4_14 := h14.blk kg4_12
  have kg5_14 := h14.blk kg5_12
  have kg6_14 := h14.blk kg6_12
  refine l_row rfl rfl rfl (sz68.trans (congrArg some ((nums_size _ _).trans (cl_len (stepR (stepsR (expandR s) c k) ((k : Nat) : Int) ((expandR s).getD k 0)))).symm)) (s6_13.n6).ev (At.hit z13.p5 rfl).ev (nums_one _ _) kg6_14 (((nums_size _ _).trans (cl_len (stepsR (expandR s) c k))).trans ((nums_size _ _).trans (cl_len (stepR (stepsR (expandR s) c k) ((k : Nat) : Int) ((expandR s).getD k 0)))).symm) ?_
  intro w15 k15 u15
  have kg2_15 := u15.blk kg2_14 (by omega)
  have kg4_15 := u15.blk kg4_14 (by omega)
  have kg5_15 := u15.blk kg5_14 (by omega)
  refine l_end (e_fresh z13.p6 ?_)
  intro a16 z16 m16
  have s2_16 := m16 _ _ (s2_13.n6)
  have s4_16 := m16 _ _ (s4_13.n6)
  have s5_16 := m16 _ _ (s5_13.n6)
  have s6_16 := m16 _ _ (s6_13.n6)
  have s7_16 := m16 _ _ (s7_13.n6)
  have low16 := ((low12.trans h14).upd u15 geg6)
  clear m16
  refine e_in (e_then (c_region ?_))
  refine l_q rfl (q_move _ _ rfl s7_16.ev ?_)
  refine l_q rfl (q_add (((k + 1 : Nat) : Int)) rfl (At.hit z16 rfl).ev rfl (i64_is (by omega) (by omega) (by omega)) ?_)
  refine l_q rfl (q_assign _ _ rfl (At.hit z16.put rfl).ev ?_)
  refine l_end (e_fresh z16.p3 ?_)
  intro a17 z17 m17
  have s2_17 := m17 _ _ (s2_16.n3)
  have s4_17 := m17 _ _ (s4_16.n3)
  have s5_17 := m17 _ _ (s5_16.n3)
  have s6_17 := m17 _ _ (s6_16.n3)
  have s7_17 := m17 _ _ (At.hit z16.p2 rfl)
  clear m17
  exact ⟨z17, s2_17, s4_17, s5_17, s6_17, s7_17, kg2_15, kg4_15, kg5_15, k15, low16⟩
 ·
  intro a18 w18 h
  obtain ⟨z18, s2_18, s4_18, s5_18, s6_18, s7_18, kg2_18, kg4_18, kg5_18, kg6_18, low18⟩ := h
  clear k9 kg2_9 kg4_9 kg5_9 low10 s2_11 s4_11 s5_11 s6_11 s7_11 z11
  refine c_seq (c_seq (c_region ?_))
  refine l_q rfl (q_move _ _ rfl s7_18.ev ?_)
  refine l_q rfl (q_lss false rfl (At.hit z18 rfl).ev rfl (decide_eq_false (by omega)) ?_)
  refine l_end (e_fresh z18.p2 ?_)
  intro a19 z19 m19
  have s2_19 := m19 _ _ (s2_18.n2)
  have s4_19 := m19 _ _ (s4_18.n2)
  have s5_19 := m19 _ _ (s5_18.n2)
  have s6_19 := m19 _ _ (s6_18.n2)
  have s7_19 := m19 _ _ (s7_18.n2)
  have s13_19 := m19 _ _ (At.hit z18.put rfl)
  clear m19
  refine e_then (c_false s13_19 ?_)
  refine wp_exit (x_then (x_then (in_exit (e_then (c_seq (c_seq (c_region ?_)))))))
  refine l_q rfl (q_assign _ _ rfl rfl ?_)
  refine l_end (e_fresh z19.put ?_)
  intro a20 z20 m20
  have s2_20 := m20 _ _ (s2_19.n1)
  have s4_20 := m20 _ _ (s4_19.n1)
  have s6_20 := m20 _ _ (s6_19.n1)
  have s8_20 := m20 _ _ (At.hit z19 rfl)
  clear m20
  refine e_then (wp_block (c_loop 5 (fun k a w => Fr 36 a ∧ At a 2 (.pointer (some ⟨g2, 0, none⟩)) ∧ At a 4 (.pointer (some ⟨g4, 0, none⟩)) ∧ At a 6 (.pointer (some ⟨g6, 0, none⟩)) ∧ At a 8 (.int .i64 ((k : Nat) : Int)) ∧ w.heap[g2]? = some (.cells (nums .u32 (addL (cl c) (cl (stepsR (expandR s) c 80)) k)) 68) ∧ w.heap[g4]? = some (.cells (nums .u32 (List.replicate 5 0)) 68) ∧ w.heap[g6]? = some (.cells (nums .u32 (cl (stepsR (expandR s) c 80))) 68) ∧ Low w0 w) ?_ ?_ ?_))
  ·
   exact ⟨z20, s2_20, s4_20, s6_20, s8_20, kg2_18, kg4_18, kg6_18, low18⟩
  ·
   intro k a21 w21 hk21 h
   obtain ⟨z21, s2_21, s4_21, s6_21, s8_21, kg2_21, kg4_21, kg6_21, low21⟩ := h
   clear kg2_18 kg4_18 kg6_18 low18 s2_20 s4_20 s6_20 s8_20 z20
   refine c_seq (c_seq (c_region ?_))
   refine l_q rfl (q_move _ _ rfl s8_21.ev ?_)
   refine l_q rfl (q_lss true rfl (At.hit z21 rfl).ev rfl (decide_eq_true (by omega)) ?_)
   refine l_end (e_fresh z21.p2 ?_)
   intro a22 z22 m22
   have s2_22 := m22 _ _ (s2_21.n2)
   have s4_22 := m22 _ _ (s4_21.n2)
   have s6_22 := m22 _ _ (s6_21.n2)
   have s8_22 := m22 _ _ (s8_21.n2)
   have s23_22 := m22 _ _ (At.hit z21.put rfl)
   clear m22
   refine e_then (c_true s23_22 ?_)
   refine wp_skip (e_then (c_seq (wp_block (region_low_tail 9 hm (by kernel_rfl) ?_))))
   simp only [List.take_succ_cons, List.take_zero, List.drop_succ_cons, List.drop_zero]
   refine qs (q_move _ _ rfl s8_22.ev ?_)
   refine qs (q_move _ _ rfl (s8_22.n1).ev ?_)
   refine qs (q_idx (j := k) rfl Tryz.underlying68 sz64 (s2_22.n2).ev (At.hit z22.put rfl).ev (by omega) ?_)
   refine qs (q_cell (.int .u32 ((addL (cl c) (cl (stepsR (expandR s) c 80)) k).getD k 0)) rfl Tryz.underlying64 (At.hit z22.p2 rfl).ev (fun _ h => nums_cell (h.blk kg2_21) k (by rw [(addL_len (cl c) _ k)]; omega)) ?_)
   refine qs (q_move _ _ rfl (s8_22.n4).ev ?_)
   refine qs (q_idx (j := k) rfl Tryz.underlying68 sz64 (s6_22.n5).ev (At.hit z22.p4 rfl).ev (by omega) ?_)
   refine qs (q_cell (.int .u32 ((cl (stepsR (expandR s) c 80)).getD k 0)) rfl Tryz.underlying64 (At.hit z22.p5 rfl).ev (fun _ h => nums_cell (h.blk kg6_21) k (by rw [(cl_len (stepsR (expandR s) c 80))]; omega)) ?_)
   refine qs (q_add _ rfl ((At.hit z22.p3 rfl).n3).ev (At.hit z22.p6 rfl).ev rfl ?_)
   refine q_fresh z22.p8 ?_
   intro a23 z23 m23
   have s2_23 := m23 _ _ (s2_22.n8)
   have s4_23 := m23 _ _ (s4_22.n8)
   have s6_23 := m23 _ _ (s6_22.n8)
   have s8_23 := m23 _ _ (s8_22.n8)
   have s26_23 := m23 _ _ ((At.hit z22 rfl).n7)
   have s33_23 := m23 _ _ (At.hit z22.p7 rfl)
   clear m23
   refine qs (q_idx (j := k) rfl Tryz.underlying68 sz64 s2_23.ev s26_23.ev (by omega) ?_)
   refine qz ?_
   intro w24 h24
   have kg2_24 := h24.blk kg2_21
   have kg4_24 := h24.blk kg4_21
   have kg6_24 := h24.blk kg6_21
   refine l_cell (j := k) (v := .int .u32 (IntKind.u32.wrap (((addL (cl c) (cl (stepsR (expandR s) c 80)) k).getD k 0) + ((cl (stepsR (expandR s) c 80)).getD k 0)))) rfl rfl rfl sz64 (At.hit z23 rfl).ev (s33_23.n1).ev rfl kg2_24 (by rw [(nums_size _ _).trans (addL_len (cl c) _ k)]; omega) ?_
   intro w25 k25 u25
   rw [nums_put] at k25
   have kg4_25 := u25.blk kg4_24 (by omega)
   have kg6_25 := u25.blk kg6_24 (by omega)
   refine l_end (e_fresh z23.put ?_)
   intro a26 z26 m26
   have s2_26 := m26 _ _ (s2_23.n1)
   have s4_26 := m26 _ _ (s4_23.n1)
   have s6_26 := m26 _ _ (s6_23.n1)
   have s8_26 := m26 _ _ (s8_23.n1)
   have low26 := ((low21.trans h24).upd u25 geg2)
   clear m26
   refine e_in (e_then (c_region ?_))
   refine l_q rfl (q_move _ _ rfl s8_26.ev ?_)
   refine l_q rfl (q_add (((k + 1 : Nat) : Int)) rfl (At.hit z26 rfl).ev rfl (i64_is (by omega) (by omega) (by omega)) ?_)
   refine l_q rfl (q_assign _ _ rfl (At.hit z26.put rfl).ev ?_)
   refine l_end (e_fresh z26.p3 ?_)
   intro a27 z27 m27
   have s2_27 := m27 _ _ (s2_26.n3)
   have s4_27 := m27 _ _ (s4_26.n3)
   have s6_27 := m27 _ _ (s6_26.n3)
   have s8_27 := m27 _ _ (At.hit z26.p2 rfl)
   clear m27
   exact ⟨z27, s2_27, s4_27, s6_27, s8_27, k25, kg4_25, kg6_25, low26⟩
  ·
   intro a28 w28 h
   obtain ⟨z28, s2_28, s4_28, s6_28, s8_28, kg2_28, kg4_28, kg6_28, low28⟩ := h
   clear kg2_18 kg4_18 kg6_18 low18 s2_20 s4_20 s6_20 s8_20 z20
   refine c_seq (c_seq (c_region ?_))
   refine l_q rfl (q_move _ _ rfl s8_28.ev ?_)
   refine l_q rfl (q_lss false rfl (At.hit z28 rfl).ev rfl (decide_eq_false (by omega)) ?_)
   refine l_end (e_fresh z28.p2 ?_)
   intro a29 z29 m29
   have s2_29 := m29 _ _ (s2_28.n2)
   have s4_29 := m29 _ _ (s4_28.n2)
   have s6_29 := m29 _ _ (s6_28.n2)
   have s8_29 := m29 _ _ (s8_28.n2)
   have s23_29 := m29 _ _ (At.hit z28.put rfl)
   clear m29
   refine e_then (c_false s23_29 ?_)
   refine wp_exit (x_then (x_then (in_exit (e_then (c_seq (c_region ?_))))))
   refine l_q rfl (q_row rfl Tryz.underlying68 rfl (sz68.trans (congrArg some ((nums_size _ _).trans (addL_len (cl c) _ 5)).symm)) s2_29.ev (fun _ e => by rw [e]; exact kg2_28) ?_)
   refine l_row rfl rfl rfl (sz68.trans (congrArg some ((nums_size _ _).trans (addL_len (cl c) _ 5)).symm)) (s4_29.n1).ev (At.hit z29 rfl).ev (nums_one _ _) kg4_28 (((nums_size _ _).trans (List.length_replicate)).trans ((nums_size _ _).trans (addL_len (cl c) _ 5)).symm) ?_
   intro w30 k30 u30
   have kg2_30 := u30.blk kg2_28 (by omega)
   have kg6_30 := u30.blk kg6_28 (by omega)
   refine l_end (e_fresh z29.put ?_)
   intro a31 z31 m31
   have s4_31 := m31 _ _ (s4_29.n1)
   have low31 := (low28.upd u30 geg4)
   clear m31
   refine e_then (wp_ret (r_cell rfl z31.defers s4_31 k30 Tryz.underlying68 rfl (sz68.trans (congrArg some ((nums_size _ _).trans (addL_len (cl c) _ 5)).symm)) ?_))
   exact ⟨rfl, low31⟩
/-- sha1's words: a byte more -/
def exL (s : ByteArray) : Nat → List Int
  | 0 => List.replicate 80 0
  | k + 1 => if h : k < s.size then (exL s k).set (k / 4) (Go.bits .or .u32 ((exL s k).getD (k / 4) 0) (IntKind.u32.wrap ((IntKind.u32.wrap (s[k].toNat : Int)) * 2 ^ min (24 - 8 * ((k % 4 : Nat) : Int)).toNat 32))) else exL s k
theorem exL_len (s : ByteArray) : ∀ k, (exL s k).length = 80
  | 0 => List.length_replicate
  | k + 1 => by
    unfold exL
    split
    · rw [List.length_set, exL_len s k]
    · exact exL_len s k
theorem exL_yes (s : ByteArray) (k : Nat) (h : k < s.size) : exL s (k + 1) = (exL s k).set (k / 4) (Go.bits .or .u32 ((exL s k).getD (k / 4) 0) (IntKind.u32.wrap ((IntKind.u32.wrap (s[k].toNat : Int)) * 2 ^ min (24 - 8 * ((k % 4 : Nat) : Int)).toNat 32))) := by
  show (if h : k < s.size then _ else _) = _
  rw [dif_pos h]
def exL2 (l : List Int) : Nat → List Int
  | 0 => l
  | d + 1 => (exL2 l d).set (d + 16) (rotl (Go.bits .xor .u32 (Go.bits .xor .u32 (Go.bits .xor .u32 ((exL2 l d).getD (d + 13) 0) ((exL2 l d).getD (d + 8) 0)) ((exL2 l d).getD (d + 2) 0)) ((exL2 l d).getD d 0)) 1)
theorem exL2_len (l : List Int) (h : l.length = 80) : ∀ d, (exL2 l d).length = 80
  | 0 => h
  | d + 1 => by rw [exL2, List.length_set, exL2_len l h d]
def expandL (s : ByteArray) : List Int := exL2 (exL s (min s.size 64)) 64
theorem expandL_len (s : ByteArray) : (expandL s).length = 80 := exL2_len _ (exL_len s _) 64
def stepsL (l : List Int) (x : Ch) : Nat → Ch
  | 0 => x
  | k + 1 => stepL (stepsL l x k) (k : Nat) (l.getD k 0)
def pressL (c : Ch) (s : ByteArray) : List Int := addL (cl c) (cl (stepsL (expandL s) c 80)) 5
theorem ExpandL.calls (s : ByteArray) (hs : s.size ≤ 9223372036854775807) (w0 : World) : Calls Tryz.prog 45 #[.string s] w0 fun e w' => e = .returned (.agg (nums .u32 (expandL s))) ∧ Low w0 w' := by
 refine c_fun (R := _) Tryz.func45 rfl 55 rfl (Nat.le_of_ble_eq_true rfl) ?_
 intro a z hA
 have s0 := hA 0 _ rfl
 clear hA
 refine c_seq (c_region (l_alloc rfl rfl zero66 ?_))
 intro g2 w1 hg1 k1 h1
 have geg2 := Nat.le_trans (Low.refl _).ge hg1
 refine l_end (e_fresh z.put ?_)
 intro a2 z2 m2
 have s0_2 := m2 _ _ (s0.n1)
 have s2_2 := m2 _ _ (At.hit z rfl)
 have low2 := h1
 clear m2
 refine e_then (c_seq (c_region (l_alloc rfl rfl zero66 ?_)))
 intro g3 w3 hg3 k3 h3
 have lt_g2_g3 := Nat.lt_of_lt_of_le (heap_lt k1) hg3
 have geg3 := Nat.le_trans low2.ge hg3
 have kg2_3 := h3.blk k1
 refine l_end (e_fresh z2.put ?_)
 intro a4 z4 m4
 have s0_4 := m4 _ _ (s0_2.n1)
 have s2_4 := m4 _ _ (s2_2.n1)
 have s3_4 := m4 _ _ (At.hit z2 rfl)
 have low4 := (low2.trans h3)
 clear m4
 refine e_then (c_seq (c_seq (c_region ?_)))
 refine l_q rfl (q_move _ _ rfl s0_4.ev ?_)
 refine l_q rfl (q_len rfl rfl Tryz.underlying9 (At.hit z4 rfl).ev ?_)
 refine l_q rfl (q_min (m := s.size) (n := 64) rfl rfl (At.hit z4.put rfl).ev rfl ?_)
 refine l_q rfl (q_move _ _ rfl rfl ?_)
 refine l_end (e_fresh z4.p4 ?_)
 intro a5 z5 m5
 have s0_5 := m5 _ _ (s0_4.n4)
 have s2_5 := m5 _ _ (s2_4.n4)
 have s3_5 := m5 _ _ (s3_4.n4)
 have s8_5 := m5 _ _ ((At.hit z4.p2 rfl).n1)
 have s9_5 := m5 _ _ (At.hit z4.p3 rfl)
 clear m5
 refine e_then (wp_block (c_loop (min s.size 64) (fun k a w => Fr 55 a ∧ At a 0 (.string s) ∧ At a 2 (.pointer (some ⟨g2, 0, none⟩)) ∧ At a 3 (.pointer (some ⟨g3, 0, none⟩)) ∧ At a 8 (.int .i64 (((min s.size 64) : Nat) : Int)) ∧ At a 9 (.int .i64 ((k : Nat) : Int)) ∧ w.heap[g2]? = some (.cells (nums .u32 (List.replicate 80 0)) 66) ∧ w.heap[g3]? = some (.cells (nums .u32 (exL s k)) 66) ∧ Low w0 w) ?_ ?_ ?_))
 ·
  exact ⟨z5, s0_5, s2_5, s3_5, s8_5, s9_5, kg2_3, k3, low4⟩
 ·
  intro k a6 w6 hk6 h
  obtain ⟨z6, s0_6, s2_6, s3_6, s8_6, s9_6, kg2_6, kg3_6, low6⟩ := h
  clear k3 kg2_3 low4 s0_5 s2_5 s3_5 s8_5 s9_5 z5
  refine c_seq (c_region ?_)
  refine l_q rfl (q_lss true rfl s9_6.ev s8_6.ev (decide_eq_true (by omega)) ?_)
  refine l_end (e_fresh z6.put ?_)
  intro a7 z7 m7
  have s0_7 := m7 _ _ (s0_6.n1)
  have s2_7 := m7 _ _ (s2_6.n1)
  have s3_7 := m7 _ _ (s3_6.n1)
  have s8_7 := m7 _ _ (s8_6.n1)
  have s9_7 := m7 _ _ (s9_6.n1)
  have s10_7 := m7 _ _ (At.hit z6 rfl)
  clear m7
  refine e_then (c_seq (c_true s10_7 ?_))
  refine wp_skip (e_then (c_seq (wp_block (c_seq (c_region ?_)))))
  refine l_q rfl (q_move _ _ rfl s9_7.ev ?_)
  refine l_q rfl (q_assign _ _ rfl (At.hit z7 rfl).ev ?_)
  refine l_end (e_fresh z7.p2 ?_)
  intro a8 z8 m8
  have s0_8 := m8 _ _ (s0_7.n2)
  have s2_8 := m8 _ _ (s2_7.n2)
  have s3_8 := m8 _ _ (s3_7.n2)
  have s4_8 := m8 _ _ (At.hit z7.put rfl)
  have s8_8 := m8 _ _ (s8_7.n2)
  have s9_8 := m8 _ _ (s9_7.n2)
  clear m8
  refine e_then (region_low_tail 15 hm (by kernel_rfl) ?_)
  simp only [List.take_succ_cons, List.take_zero, List.drop_succ_cons, List.drop_zero]
  refine qs (q_move _ _ rfl s4_8.ev ?_)
  refine qs (q_quo (m := k) (n := 4) (by omega) (by omega) rfl (At.hit z8 rfl).ev rfl ?_)
  refine qs (q_idx (j := ((k) / 4)) rfl Tryz.underlying66 sz64 (s3_8.n2).ev (At.hit z8.put rfl).ev (by omega) ?_)
  refine qs (q_cell (.int .u32 ((exL s k).getD ((k) / 4) 0)) rfl Tryz.underlying64 (At.hit z8.p2 rfl).ev (fun _ h => nums_cell (h.blk kg3_6) ((k) / 4) (by rw [(exL_len s k)]; omega)) ?_)
  refine qs (q_move _ _ rfl (s0_8.n4).ev ?_)
  refine qs (q_move _ _ rfl (s4_8.n5).ev ?_)
  refine qs (q_stridx (j := k) rfl Tryz.underlying9 ((At.hit z8.p4 rfl).n1).ev (At.hit z8.p5 rfl).ev (by omega) ?_)
  refine qs (q_conv _ rfl (At.hit z8.p6 rfl).ev Tryz.underlying5 Tryz.underlying64 rfl ?_)
  refine q_fresh z8.p8 ?_
  intro a9 z9 m9
  have s0_9 := m9 _ _ (s0_8.n8)
  have s2_9 := m9 _ _ (s2_8.n8)
  have s3_9 := m9 _ _ (s3_8.n8)
  have s4_9 := m9 _ _ (s4_8.n8)
  have s8_9 := m9 _ _ (s8_8.n8)
  have s9_9 := m9 _ _ (s9_8.n8)
  have s13_9 := m9 _ _ ((At.hit z8.put rfl).n6)
  have s15_9 := m9 _ _ ((At.hit z8.p3 rfl).n4)
  have s19_9 := m9 _ _ (At.hit z8.p7 rfl)
  clear m9
  refine qs (q_move _ _ rfl s4_9.ev ?_)
  refine qs (q_rem (m := k) (n := 4) (by omega) rfl (At.hit z9 rfl).ev rfl ?_)
  refine qs (q_mul (((8 * ((k) % 4) : Nat) : Int)) rfl rfl (At.hit z9.put rfl).ev (i64_is (by omega) (by omega) (by omega)) ?_)
  refine qs (q_sub ((24 - 8 * (((k) % 4 : Nat) : Int))) rfl rfl (At.hit z9.p2 rfl).ev (i64_is (by omega) (by omega) (by omega)) ?_)
  refine qs (q_shl (IntKind.u32.wrap ((IntKind.u32.wrap ((s[k]'(by omega)).toNat : Int)) * 2 ^ min ((24 - 8 * (((k) % 4 : Nat) : Int)) : Int).toNat 32)) rfl (s19_9.n4).ev (At.hit z9.p3 rfl).ev (by first | omega | exact u64_nonneg _) rfl ?_)
  refine qs (q_or rfl (s15_9.n5).ev (At.hit z9.p4 rfl).ev ?_)
  refine qs (q_idx (j := ((k) / 4)) rfl Tryz.underlying66 sz64 (s3_9.n6).ev (s13_9.n6).ev (by omega) ?_)
  refine qz ?_
  intro w10 h10
  have kg2_10 := h10.blk kg2_6
  have kg3_10 := h10.blk kg3_6
  refine l_cell (j := ((k) / 4)) (v := .int .u32 (Go.bits .or .u32 ((exL s k).getD ((k) / 4) 0) (IntKind.u32.wrap ((IntKind.u32.wrap ((s[k]'(by omega)).toNat : Int)) * 2 ^ min ((24 - 8 * (((k) % 4 : Nat) : Int)) : Int).toNat 32)))) rfl rfl rfl sz64 (At.hit z9.p6 rfl).ev ((At.hit z9.p5 rfl).n1).ev rfl kg3_10 (by rw [(nums_size _ _).trans (exL_len s k)]; omega) ?_
  intro w11 k11 u11
  rw [nums_put] at k11
  have kg2_11 := u11.blk kg2_10 (by omega)
  refine l_end (e_fresh z9.p7 ?_)
  intro a12 z12 m12
  have s0_12 := m12 _ _ (s0_9.n7)
  have s2_12 := m12 _ _ (s2_9.n7)
  have s3_12 := m12 _ _ (s3_9.n7)
  have s8_12 := m12 _ _ (s8_9.n7)
  have s9_12 := m12 _ _ (s9_9.n7)
  have low12 := ((low6.trans h10).upd u11 geg3)
  clear m12
  refine e_in (e_then (c_region ?_))
  refine l_q rfl (q_add (((k + 1 : Nat) : Int)) rfl s9_12.ev rfl (i64_is (by omega) (by omega) (by omega)) ?_)
  refine l_q rfl (q_move _ _ rfl (At.hit z12 rfl).ev ?_)
  refine l_end (e_fresh z12.p2 ?_)
  intro a13 z13 m13
  have s0_13 := m13 _ _ (s0_12.n2)
  have s2_13 := m13 _ _ (s2_12.n2)
  have s3_13 := m13 _ _ (s3_12.n2)
  have s8_13 := m13 _ _ (s8_12.n2)
  have s9_13 := m13 _ _ (At.hit z12.put rfl)
  clear m13
  have hys : k < s.size := by omega
  rw [← exL_yes s k hys] at k11
  exact ⟨z13, s0_13, s2_13, s3_13, s8_13, s9_13, kg2_11, k11, low12⟩
 ·
  intro a14 w14 h
  obtain ⟨z14, s0_14, s2_14, s3_14, s8_14, s9_14, kg2_14, kg3_14, low14⟩ := h
  clear k3 kg2_3 low4 s0_5 s2_5 s3_5 s8_5 s9_5 z5
  refine c_seq (c_region ?_)
  refine l_q rfl (q_lss false rfl s9_14.ev s8_14.ev (decide_eq_false (by omega)) ?_)
  refine l_end (e_fresh z14.put ?_)
  intro a15 z15 m15
  have s0_15 := m15 _ _ (s0_14.n1)
  have s2_15 := m15 _ _ (s2_14.n1)
  have s3_15 := m15 _ _ (s3_14.n1)
  have s9_15 := m15 _ _ (s9_14.n1)
  have s10_15 := m15 _ _ (At.hit z14 rfl)
  clear m15
  refine e_then (c_seq (c_false s10_15 ?_))
  refine wp_exit (x_then (x_then (in_exit (e_then (c_seq (c_seq (c_region ?_)))))))
  refine l_q rfl (q_assign _ _ rfl rfl ?_)
  refine l_end (e_fresh z15.put ?_)
  intro a16 z16 m16
  have s2_16 := m16 _ _ (s2_15.n1)
  have s3_16 := m16 _ _ (s3_15.n1)
  have s5_16 := m16 _ _ (At.hit z15 rfl)
  clear m16
  refine e_then (wp_block (c_loop 64 (fun d a w => Fr 55 a ∧ At a 2 (.pointer (some ⟨g2, 0, none⟩)) ∧ At a 3 (.pointer (some ⟨g3, 0, none⟩)) ∧ At a 5 (.int .i64 ((d + 16 : Nat) : Int)) ∧ w.heap[g2]? = some (.cells (nums .u32 (List.replicate 80 0)) 66) ∧ w.heap[g3]? = some (.cells (nums .u32 (exL2 (exL s (min s.size 64)) d)) 66) ∧ Low w0 w) ?_ ?_ ?_))
  ·
   exact ⟨z16, s2_16, s3_16, (s5_16.same (congrArg (Value.int .i64) (by omega))), kg2_14, kg3_14, low14⟩
  ·
   intro d a17 w17 hk17 h
   obtain ⟨z17, s2_17, s3_17, s5_17, kg2_17, kg3_17, low17⟩ := h
   clear kg2_14 kg3_14 low14 s2_16 s3_16 s5_16 z16
   refine c_seq (c_seq (c_region ?_))
   refine l_q rfl (q_move _ _ rfl s5_17.ev ?_)
   refine l_q rfl (q_lss true rfl (At.hit z17 rfl).ev rfl (decide_eq_true (by omega)) ?_)
   refine l_end (e_fresh z17.p2 ?_)
   intro a18 z18 m18
   have s2_18 := m18 _ _ (s2_17.n2)
   have s3_18 := m18 _ _ (s3_17.n2)
   have s5_18 := m18 _ _ (s5_17.n2)
   have s29_18 := m18 _ _ (At.hit z17.put rfl)
   clear m18
   refine e_then (c_true s29_18 ?_)
   refine wp_skip (e_then (c_seq (wp_block (region_low_tail 22 hm (by kernel_rfl) ?_))))
   simp only [List.take_succ_cons, List.take_zero, List.drop_succ_cons, List.drop_zero]
   refine qs (q_move _ _ rfl s5_18.ev ?_)
   refine qs (q_move _ _ rfl (s5_18.n1).ev ?_)
   refine qs (q_sub (((d + 13 : Nat) : Int)) rfl (At.hit z18.put rfl).ev rfl (i64_is (by omega) (by omega) (by omega)) ?_)
   refine qs (q_idx (j := d + 13) rfl Tryz.underlying66 sz64 (s3_18.n3).ev (At.hit z18.p2 rfl).ev (by omega) ?_)
   refine qs (q_cell (.int .u32 ((exL2 (exL s (min s.size 64)) d).getD (d + 13) 0)) rfl Tryz.underlying64 (At.hit z18.p3 rfl).ev (fun _ h => nums_cell (h.blk kg3_17) (d + 13) (by rw [(exL2_len _ (exL_len s _) d)]; omega)) ?_)
   refine qs (q_move _ _ rfl (s5_18.n5).ev ?_)
   refine qs (q_sub (((d + 8 : Nat) : Int)) rfl (At.hit z18.p5 rfl).ev rfl (i64_is (by omega) (by omega) (by omega)) ?_)
   refine qs (q_idx (j := d + 8) rfl Tryz.underlying66 sz64 (s3_18.n7).ev (At.hit z18.p6 rfl).ev (by omega) ?_)
   refine q_fresh z18.p8 ?_
   intro a19 z19 m19
   have s2_19 := m19 _ _ (s2_18.n8)
   have s3_19 := m19 _ _ (s3_18.n8)
   have s5_19 := m19 _ _ (s5_18.n8)
   have s32_19 := m19 _ _ ((At.hit z18 rfl).n7)
   have s36_19 := m19 _ _ ((At.hit z18.p4 rfl).n3)
   have s39_19 := m19 _ _ (At.hit z18.p7 rfl)
   clear m19
   refine qs (q_cell (.int .u32 ((exL2 (exL s (min s.size 64)) d).getD (d + 8) 0)) rfl Tryz.underlying64 s39_19.ev (fun _ h => nums_cell (h.blk kg3_17) (d + 8) (by rw [(exL2_len _ (exL_len s _) d)]; omega)) ?_)
   refine qs (q_xor rfl (s36_19.n1).ev (At.hit z19 rfl).ev ?_)
   refine qs (q_move _ _ rfl (s5_19.n2).ev ?_)
   refine qs (q_sub (((d + 2 : Nat) : Int)) rfl (At.hit z19.p2 rfl).ev rfl (i64_is (by omega) (by omega) (by omega)) ?_)
   refine qs (q_idx (j := d + 2) rfl Tryz.underlying66 sz64 (s3_19.n4).ev (At.hit z19.p3 rfl).ev (by omega) ?_)
   refine qs (q_cell (.int .u32 ((exL2 (exL s (min s.size 64)) d).getD (d + 2) 0)) rfl Tryz.underlying64 (At.hit z19.p4 rfl).ev (fun _ h => nums_cell (h.blk kg3_17) (d + 2) (by rw [(exL2_len _ (exL_len s _) d)]; omega)) ?_)
   refine qs (q_xor rfl ((At.hit z19.put rfl).n4).ev (At.hit z19.p5 rfl).ev ?_)
   refine qs (q_move _ _ rfl (s5_19.n7).ev ?_)
   refine q_fresh z19.p8 ?_
   intro a20 z20 m20
   have s2_20 := m20 _ _ (s2_19.n8)
   have s3_20 := m20 _ _ (s3_19.n8)
   have s5_20 := m20 _ _ (s5_19.n8)
   have s32_20 := m20 _ _ (s32_19.n8)
   have s46_20 := m20 _ _ ((At.hit z19.p6 rfl).n1)
   have s47_20 := m20 _ _ (At.hit z19.p7 rfl)
   clear m20
   refine qs (q_sub (((d : Nat) : Int)) rfl s47_20.ev rfl (i64_is (by omega) (by omega) (by omega)) ?_)
   refine qs (q_idx (j := d) rfl Tryz.underlying66 sz64 (s3_20.n1).ev (At.hit z20 rfl).ev (by omega) ?_)
   refine qs (q_cell (.int .u32 ((exL2 (exL s (min s.size 64)) d).getD d 0)) rfl Tryz.underlying64 (At.hit z20.put rfl).ev (fun _ h => nums_cell (h.blk kg3_17) d (by rw [(exL2_len _ (exL_len s _) d)]; omega)) ?_)
   refine qs (q_xor rfl (s46_20.n3).ev (At.hit z20.p2 rfl).ev ?_)
   refine qs (q_call (.int .u32 (rotl (Go.bits .xor .u32 (Go.bits .xor .u32 (Go.bits .xor .u32 ((exL2 (exL s (min s.size 64)) d).getD (d + 13) 0) ((exL2 (exL s (min s.size 64)) d).getD (d + 8) 0)) ((exL2 (exL s (min s.size 64)) d).getD (d + 2) 0)) ((exL2 (exL s (min s.size 64)) d).getD d 0)) 1)) rfl rfl Tryz.func61 rfl (args2 rfl (At.hit z20.p3 rfl).ev rfl) (fun _ h => (RotL.calls (Go.bits .xor .u32 (Go.bits .xor .u32 (Go.bits .xor .u32 ((exL2 (exL s (min s.size 64)) d).getD (d + 13) 0) ((exL2 (exL s (min s.size 64)) d).getD (d + 8) 0)) ((exL2 (exL s (min s.size 64)) d).getD (d + 2) 0)) ((exL2 (exL s (min s.size 64)) d).getD d 0)) 1 _).mono fun _ _ ⟨e, k⟩ => ⟨e, h.trans k⟩) ?_)
   refine qs (q_idx (j := d + 16) rfl Tryz.underlying66 sz64 (s3_20.n5).ev (s32_20.n5).ev (by omega) ?_)
   refine qz ?_
   intro w21 h21
   have kg2_21 := h21.blk kg2_17
   have kg3_21 := h21.blk kg3_17
   refine l_cell (j := (d + 16)) (v := .int .u32 (rotl (Go.bits .xor .u32 (Go.bits .xor .u32 (Go.bits .xor .u32 ((exL2 (exL s (min s.size 64)) d).getD (d + 13) 0) ((exL2 (exL s (min s.size 64)) d).getD (d + 8) 0)) ((exL2 (exL s (min s.size 64)) d).getD (d + 2) 0)) ((exL2 (exL s (min s.size 64)) d).getD d 0)) 1)) rfl rfl rfl sz64 (At.hit z20.p5 rfl).ev ((At.hit z20.p4 rfl).n1).ev rfl kg3_21 (by rw [(nums_size _ _).trans (exL2_len _ (exL_len s _) d)]; omega) ?_
   intro w22 k22 u22
   rw [nums_put] at k22
   have kg2_22 := u22.blk kg2_21 (by omega)
   refine l_end (e_fresh z20.p6 ?_)
   intro a23 z23 m23
   have s2_23 := m23 _ _ (s2_20.n6)
   have s3_23 := m23 _ _ (s3_20.n6)
   have s5_23 := m23 _ _ (s5_20.n6)
   have low23 := ((low17.trans h21).upd u22 geg3)
   clear m23
   refine e_in (e_then (c_region ?_))
   refine l_q rfl (q_move _ _ rfl s5_23.ev ?_)
   refine l_q rfl (q_add (((d + 17 : Nat) : Int)) rfl (At.hit z23 rfl).ev rfl (i64_is (by omega) (by omega) (by omega)) ?_)
   refine l_q rfl (q_assign _ _ rfl (At.hit z23.put rfl).ev ?_)
   refine l_end (e_fresh z23.p3 ?_)
   intro a24 z24 m24
   have s2_24 := m24 _ _ (s2_23.n3)
   have s3_24 := m24 _ _ (s3_23.n3)
   have s5_24 := m24 _ _ (At.hit z23.p2 rfl)
   clear m24
   exact ⟨z24, s2_24, s3_24, (s5_24.same (congrArg (Value.int .i64) (by omega))), kg2_22, k22, low23⟩
  ·
   intro a25 w25 h
   obtain ⟨z25, s2_25, s3_25, s5_25, kg2_25, kg3_25, low25⟩ := h
   clear kg2_14 kg3_14 low14 s2_16 s3_16 s5_16 z16
   refine c_seq (c_seq (c_region ?_))
   refine l_q rfl (q_move _ _ rfl s5_25.ev ?_)
   refine l_q rfl (q_lss false rfl (At.hit z25 rfl).ev rfl (decide_eq_false (by omega)) ?_)
   refine l_end (e_fresh z25.p2 ?_)
   intro a26 z26 m26
   have s2_26 := m26 _ _ (s2_25.n2)
   have s3_26 := m26 _ _ (s3_25.n2)
   have s5_26 := m26 _ _ (s5_25.n2)
   have s29_26 := m26 _ _ (At.hit z25.put rfl)
   clear m26
   refine e_then (c_false s29_26 ?_)
   refine wp_exit (x_then (x_then (in_exit (e_then (c_seq (c_region ?_))))))
   refine l_q rfl (q_row rfl Tryz.underlying66 rfl (sz66.trans (congrArg some ((nums_size _ _).trans (exL2_len _ (exL_len s _) 64)).symm)) s3_26.ev (fun _ e => by rw [e]; exact kg3_25) ?_)
   refine l_row rfl rfl rfl (sz66.trans (congrArg some ((nums_size _ _).trans (exL2_len _ (exL_len s _) 64)).symm)) (s2_26.n1).ev (At.hit z26 rfl).ev (nums_one _ _) kg2_25 (((nums_size _ _).trans (List.length_replicate)).trans ((nums_size _ _).trans (exL2_len _ (exL_len s _) 64)).symm) ?_
   intro w27 k27 u27
   have kg3_27 := u27.blk kg3_25 (by omega)
   refine l_end (e_fresh z26.put ?_)
   intro a28 z28 m28
   have s2_28 := m28 _ _ (s2_26.n1)
   have low28 := (low25.upd u27 geg2)
   clear m28
   refine e_then (wp_ret (r_cell rfl z28.defers s2_28 k27 Tryz.underlying66 rfl (sz66.trans (congrArg some ((nums_size _ _).trans (exL2_len _ (exL_len s _) 64)).symm)) ?_))
   exact ⟨rfl, low28⟩
theorem PressL.calls (c : Ch) (s : ByteArray) (hs : s.size ≤ 9223372036854775807) (w0 : World) : Calls Tryz.prog 47 #[.agg (nums .u32 (cl c)), .string s] w0 fun e w' => e = .returned (.agg (nums .u32 (pressL c s))) ∧ Low w0 w' := by
 refine c_fun (R := _) Tryz.func47 rfl 37 rfl (Nat.le_of_ble_eq_true rfl) ?_
 intro a z hA
 have s0 := hA 0 _ rfl
 have s1 := hA 1 _ rfl
 clear hA
 refine c_seq (c_region (l_box rfl rfl s0.ev ?_))
 intro g2 w1 hg1 k1 h1
 have geg2 := Nat.le_trans (Low.refl _).ge hg1
 refine l_alloc rfl rfl zero69 ?_
 intro g4 w2 hg2 k2 h2
 have lt_g2_g4 := Nat.lt_of_lt_of_le (heap_lt k1) hg2
 have geg4 := Nat.le_trans h1.ge hg2
 have kg2_2 := h2.blk k1
 refine l_end (e_fresh z.p2 ?_)
 intro a3 z3 m3
 have s1_3 := m3 _ _ (s1.n2)
 have s2_3 := m3 _ _ ((At.hit z rfl).n1)
 have s4_3 := m3 _ _ (At.hit z.put rfl)
 have low3 := (h1.trans h2)
 clear m3
 refine e_then (c_seq (c_region ?_))
 refine l_q rfl (q_move _ _ rfl s1_3.ev ?_)
 refine l_call (fun v w' => v = .agg (nums .u32 (expandL s)) ∧ Low w2 w') rfl rfl rfl Tryz.func45 rfl (args1 rfl (At.hit z3 rfl).ev) ((ExpandL.calls s (by first | exact hs | (simp only [ByteArray.size_extract]; omega)) _).mono fun _ _ ⟨e, k⟩ => ⟨_, e, rfl, k⟩) ?_
 rintro _ w4 ⟨rfl, h4⟩
 have kg2_4 := h4.blk kg2_2
 have kg4_4 := h4.blk k2
 refine l_alloc rfl rfl zero66 ?_
 intro g5 w5 hg5 k5 h5
 have lt_g2_g5 := Nat.lt_of_lt_of_le (heap_lt kg2_4) hg5
 have lt_g4_g5 := Nat.lt_of_lt_of_le (heap_lt kg4_4) hg5
 have geg5 := Nat.le_trans (low3.trans h4).ge hg5
 have kg2_5 := h5.blk kg2_4
 have kg4_5 := h5.blk kg4_4
 refine l_row rfl rfl rfl (sz66.trans (congrArg some ((nums_size _ _).trans (expandL_len s)).symm)) (At.hit z3.p2 rfl).ev ((At.hit z3.put rfl).n1).ev (nums_one _ _) k5 (((nums_size _ _).trans (List.length_replicate)).trans ((nums_size _ _).trans (expandL_len s)).symm) ?_
 intro w6 k6 u6
 have kg2_6 := u6.blk kg2_5 (by omega)
 have kg4_6 := u6.blk kg4_5 (by omega)
 refine l_end (e_fresh z3.p3 ?_)
 intro a7 z7 m7
 have s2_7 := m7 _ _ (s2_3.n3)
 have s4_7 := m7 _ _ (s4_3.n3)
 have s5_7 := m7 _ _ (At.hit z3.p2 rfl)
 have low7 := (((low3.trans h4).trans h5).upd u6 geg5)
 clear m7
 refine e_then (c_seq (c_region ?_))
 refine l_q rfl (q_row rfl Tryz.underlying69 rfl (sz69.trans (congrArg some ((nums_size _ _).trans (cl_len c)).symm)) s2_7.ev (fun _ e => by rw [e]; exact kg2_6) ?_)
 refine l_alloc rfl rfl zero69 ?_
 intro g6 w8 hg8 k8 h8
 have lt_g2_g6 := Nat.lt_of_lt_of_le (heap_lt kg2_6) hg8
 have lt_g4_g6 := Nat.lt_of_lt_of_le (heap_lt kg4_6) hg8
 have lt_g5_g6 := Nat.lt_of_lt_of_le (heap_lt k6) hg8
 have geg6 := Nat.le_trans low7.ge hg8
 have kg2_8 := h8.blk kg2_6
 have kg4_8 := h8.blk kg4_6
 have kg5_8 := h8.blk k6
 refine l_row rfl rfl rfl (sz69.trans (congrArg some ((nums_size _ _).trans (cl_len c)).symm)) (At.hit z7.put rfl).ev ((At.hit z7 rfl).n1).ev (nums_one _ _) k8 (((nums_size _ _).trans (List.length_replicate)).trans ((nums_size _ _).trans (cl_len c)).symm) ?_
 intro w9 k9 u9
 have kg2_9 := u9.blk kg2_8 (by omega)
 have kg4_9 := u9.blk kg4_8 (by omega)
 have kg5_9 := u9.blk kg5_8 (by omega)
 refine l_end (e_fresh z7.p2 ?_)
 intro a10 z10 m10
 have s2_10 := m10 _ _ (s2_7.n2)
 have s4_10 := m10 _ _ (s4_7.n2)
 have s5_10 := m10 _ _ (s5_7.n2)
 have s6_10 := m10 _ _ (At.hit z7.put rfl)
 have low10 := ((low7.trans h8).upd u9 geg6)
 clear m10
 refine e_then (c_seq (c_seq (c_region ?_)))
 refine l_q rfl (q_row rfl Tryz.underlying66 rfl (sz66.trans (congrArg some ((nums_size _ _).trans (expandL_len s)).symm)) s5_10.ev (fun _ e => by rw [e]; exact kg5_9) ?_)
 refine l_q rfl (q_move _ _ rfl rfl ?_)
 refine l_end (e_fresh z10.p2 ?_)
 intro a11 z11 m11
 have s2_11 := m11 _ _ (s2_10.n2)
 have s4_11 := m11 _ _ (s4_10.n2)
 have s6_11 := m11 _ _ (s6_10.n2)
 have s14_11 := m11 _ _ ((At.hit z10 rfl).n1)
 have s15_11 := m11 _ _ (At.hit z10.put rfl)
 clear m11
 refine e_then (wp_block (c_loop 80 (fun k a w => Fr 37 a ∧ At a 2 (.pointer (some ⟨g2, 0, none⟩)) ∧ At a 4 (.pointer (some ⟨g4, 0, none⟩)) ∧ At a 6 (.pointer (some ⟨g6, 0, none⟩)) ∧ At a 14 (.agg (nums .u32 (expandL s))) ∧ At a 15 (.int .i64 ((k : Nat) : Int)) ∧ w.heap[g2]? = some (.cells (nums .u32 (cl c)) 69) ∧ w.heap[g4]? = some (.cells (nums .u32 (List.replicate 5 0)) 69) ∧ w.heap[g6]? = some (.cells (nums .u32 (cl (stepsL (expandL s) c k))) 69) ∧ Low w0 w) ?_ ?_ ?_))
 ·
  exact ⟨z11, s2_11, s4_11, s6_11, s14_11, s15_11, kg2_9, kg4_9, k9, low10⟩
 ·
  intro k a12 w12 hk12 h
  obtain ⟨z12, s2_12, s4_12, s6_12, s14_12, s15_12, kg2_12, kg4_12, kg6_12, low12⟩ := h
  clear k9 kg2_9 kg4_9 low10 s14_11 s15_11 s2_11 s4_11 s6_11 z11
  refine c_seq (c_region ?_)
  refine l_q rfl (q_lss true rfl s15_12.ev rfl (decide_eq_true (by omega)) ?_)
  refine l_end (e_fresh z12.put ?_)
  intro a13 z13 m13
  have s2_13 := m13 _ _ (s2_12.n1)
  have s4_13 := m13 _ _ (s4_12.n1)
  have s6_13 := m13 _ _ (s6_12.n1)
  have s14_13 := m13 _ _ (s14_12.n1)
  have s15_13 := m13 _ _ (s15_12.n1)
  have s16_13 := m13 _ _ (At.hit z12 rfl)
  clear m13
  refine e_then (c_seq (c_true s16_13 ?_))
  refine wp_skip (e_then (c_seq (wp_block (c_seq (c_region ?_)))))
  refine l_q rfl (q_move _ _ rfl s15_13.ev ?_)
  refine l_q rfl (q_index (j := k) (.int .u32 ((expandL s).getD k 0)) rfl Tryz.underlying66 (run_sizeOf1 sz64) (part_nums Tryz.underlying64 k (by rw [(expandL_len s)]; omega)) (s14_13.n1).ev (s15_13.n1).ev (by omega) ?_)
  refine l_q rfl (q_assign _ _ rfl ((At.hit z13 rfl).n1).ev ?_)
  refine l_q rfl (q_assign _ _ rfl ((At.hit z13.put rfl).n1).ev ?_)
  refine l_end (e_fresh z13.p4 ?_)
  intro a14 z14 m14
  have s2_14 := m14 _ _ (s2_13.n4)
  have s4_14 := m14 _ _ (s4_13.n4)
  have s6_14 := m14 _ _ (s6_13.n4)
  have s7_14 := m14 _ _ ((At.hit z13.p2 rfl).n1)
  have s8_14 := m14 _ _ (At.hit z13.p3 rfl)
  have s14_14 := m14 _ _ (s14_13.n4)
  have s15_14 := m14 _ _ (s15_13.n4)
  clear m14
  refine e_then (c_region ?_)
  refine l_q rfl (q_row rfl Tryz.underlying69 rfl (sz69.trans (congrArg some ((nums_size _ _).trans (cl_len (stepsL (expandL s) c k))).symm)) s6_14.ev (fun _ e => by rw [e]; exact kg6_12) ?_)
  refine l_q rfl (q_move _ _ rfl (s7_14.n1).ev ?_)
  refine l_q rfl (q_move _ _ rfl (s8_14.n2).ev ?_)
  refine l_call (fun v w' => v = .agg (nums .u32 (cl (stepL (stepsL (expandL s) c k) ((k : Nat) : Int) ((expandL s).getD k 0)))) ∧ Low w12 w') rfl rfl rfl Tryz.func63 rfl (args3 rfl ((At.hit z14 rfl).n2).ev ((At.hit z14.put rfl).n1).ev (At.hit z14.p2 rfl).ev) ((StepL.calls (stepsL (expandL s) c k) ((k : Nat) : Int) ((expandL s).getD k 0) _).mono fun _ _ ⟨e, k⟩ => ⟨_, e, rfl, k⟩) ?_
  rintro _ w15 ⟨rfl, h15⟩
  have kg2_15 := h15.blk kg2_12
  have kg4_15 := h15.blk kg4_12
  have kg6_15 := h15.blk kg6_12
  refine l_row rfl rfl rfl (sz69.trans (congrArg some ((nums_size _ _).trans (cl_len (stepL (stepsL (expandL s) c k) ((k : Nat) : Int) ((expandL s).getD k 0)))).symm)) (s6_14.n4).ev (At.hit z14.p3 rfl).ev (nums_one _ _) kg6_15 (((nums_size _ _).trans (cl_len (stepsL (expandL s) c k))).trans ((nums_size _ _).trans (cl_len (stepL (stepsL (expandL s) c k) ((k : Nat) : Int) ((expandL s).getD k 0)))).symm) ?_
  intro w16 k16 u16
  have kg2_16 := u16.blk kg2_15 (by omega)
  have kg4_16 := u16.blk kg4_15 (by omega)
  refine l_end (e_fresh z14.p4 ?_)
  intro a17 z17 m17
  have s2_17 := m17 _ _ (s2_14.n4)
  have s4_17 := m17 _ _ (s4_14.n4)
  have s6_17 := m17 _ _ (s6_14.n4)
  have s14_17 := m17 _ _ (s14_14.n4)
  have s15_17 := m17 _ _ (s15_14.n4)
  have low17 := ((low12.trans h15).upd u16 geg6)
  clear m17
  refine e_in (e_then (c_region ?_))
  refine l_q rfl (q_add (((k + 1 : Nat) : Int)) rfl s15_17.ev rfl (i64_is (by omega) (by omega) (by omega)) ?_)
  refine l_q rfl (q_move _ _ rfl (At.hit z17 rfl).ev ?_)
  refine l_end (e_fresh z17.p2 ?_)
  intro a18 z18 m18
  have s2_18 := m18 _ _ (s2_17.n2)
  have s4_18 := m18 _ _ (s4_17.n2)
  have s6_18 := m18 _ _ (s6_17.n2)
  have s14_18 := m18 _ _ (s14_17.n2)
  have s15_18 := m18 _ _ (At.hit z17.put rfl)
  clear m18
  exact ⟨z18, s2_18, s4_18, s6_18, s14_18, s15_18, kg2_16, kg4_16, k16, low17⟩
 ·
  intro a19 w19 h
  obtain ⟨z19, s2_19, s4_19, s6_19, s14_19, s15_19, kg2_19, kg4_19, kg6_19, low19⟩ := h
  clear k9 kg2_9 kg4_9 low10 s14_11 s15_11 s2_11 s4_11 s6_11 z11
  refine c_seq (c_region ?_)
  refine l_q rfl (q_lss false rfl s15_19.ev rfl (decide_eq_false (by omega)) ?_)
  refine l_end (e_fresh z19.put ?_)
  intro a20 z20 m20
  have s2_20 := m20 _ _ (s2_19.n1)
  have s4_20 := m20 _ _ (s4_19.n1)
  have s6_20 := m20 _ _ (s6_19.n1)
  have s14_20 := m20 _ _ (s14_19.n1)
  have s15_20 := m20 _ _ (s15_19.n1)
  have s16_20 := m20 _ _ (At.hit z19 rfl)
  clear m20
  refine e_then (c_seq (c_false s16_20 ?_))
  refine wp_exit (x_then (x_then (in_exit (e_then (c_seq (c_seq (c_region ?_)))))))
  refine l_q rfl (q_row rfl Tryz.underlying69 rfl (sz69.trans (congrArg some ((nums_size _ _).trans (cl_len (stepsL (expandL s) c 80))).symm)) s6_20.ev (fun _ e => by rw [e]; exact kg6_19) ?_)
  refine l_q rfl (q_move _ _ rfl rfl ?_)
  refine l_end (e_fresh z20.p2 ?_)
  intro a21 z21 m21
  have s2_21 := m21 _ _ (s2_20.n2)
  have s4_21 := m21 _ _ (s4_20.n2)
  have s24_21 := m21 _ _ ((At.hit z20 rfl).n1)
  have s25_21 := m21 _ _ (At.hit z20.put rfl)
  clear m21
  refine e_then (wp_block (c_loop 5 (fun k a w => Fr 37 a ∧ At a 2 (.pointer (some ⟨g2, 0, none⟩)) ∧ At a 4 (.pointer (some ⟨g4, 0, none⟩)) ∧ At a 24 (.agg (nums .u32 (cl (stepsL (expandL s) c 80)))) ∧ At a 25 (.int .i64 ((k : Nat) : Int)) ∧ w.heap[g2]? = some (.cells (nums .u32 (addL (cl c) (cl (stepsL (expandL s) c 80)) k)) 69) ∧ w.heap[g4]? = some (.cells (nums .u32 (List.replicate 5 0)) 69) ∧ Low w0 w) ?_ ?_ ?_))
  ·
   exact ⟨z21, s2_21, s4_21, s24_21, s25_21, kg2_19, kg4_19, low19⟩
  ·
   intro k a22 w22 hk22 h
   obtain ⟨z22, s2_22, s4_22, s24_22, s25_22, kg2_22, kg4_22, low22⟩ := h
   clear kg2_19 kg4_19 low19 s24_21 s25_21 s2_21 s4_21 z21
   refine c_seq (c_region ?_)
   refine l_q rfl (q_lss true rfl s25_22.ev rfl (decide_eq_true (by omega)) ?_)
   refine l_end (e_fresh z22.put ?_)
   intro a23 z23 m23
   have s2_23 := m23 _ _ (s2_22.n1)
   have s4_23 := m23 _ _ (s4_22.n1)
   have s24_23 := m23 _ _ (s24_22.n1)
   have s25_23 := m23 _ _ (s25_22.n1)
   have s26_23 := m23 _ _ (At.hit z22 rfl)
   clear m23
   refine e_then (c_seq (c_true s26_23 ?_))
   refine wp_skip (e_then (c_seq (wp_block (c_seq (c_region ?_)))))
   refine l_q rfl (q_move _ _ rfl s25_23.ev ?_)
   refine l_q rfl (q_index (j := k) (.int .u32 ((cl (stepsL (expandL s) c 80)).getD k 0)) rfl Tryz.underlying69 (run_sizeOf1 sz64) (part_nums Tryz.underlying64 k (by rw [(cl_len (stepsL (expandL s) c 80))]; omega)) (s24_23.n1).ev (s25_23.n1).ev (by omega) ?_)
   refine l_q rfl (q_assign _ _ rfl ((At.hit z23 rfl).n1).ev ?_)
   refine l_q rfl (q_assign _ _ rfl ((At.hit z23.put rfl).n1).ev ?_)
   refine l_end (e_fresh z23.p4 ?_)
   intro a24 z24 m24
   have s2_24 := m24 _ _ (s2_23.n4)
   have s4_24 := m24 _ _ (s4_23.n4)
   have s9_24 := m24 _ _ ((At.hit z23.p2 rfl).n1)
   have s10_24 := m24 _ _ (At.hit z23.p3 rfl)
   have s24_24 := m24 _ _ (s24_23.n4)
   have s25_24 := m24 _ _ (s25_23.n4)
   clear m24
   refine e_then (c_region ?_)
   refine l_q rfl (q_move _ _ rfl s9_24.ev ?_)
   refine l_q rfl (q_idx (j := k) rfl Tryz.underlying69 sz64 (s2_24.n1).ev (At.hit z24 rfl).ev (by omega) ?_)
   refine l_q rfl (q_cell (.int .u32 ((addL (cl c) (cl (stepsL (expandL s) c 80)) k).getD k 0)) rfl Tryz.underlying64 (At.hit z24.put rfl).ev (fun _ e => by rw [e]; exact nums_cell kg2_22 k (by rw [(addL_len (cl c) _ k)]; omega)) ?_)
   refine l_q rfl (q_move _ _ rfl (s10_24.n3).ev ?_)
   refine l_q rfl (q_add _ rfl ((At.hit z24.p2 rfl).n1).ev (At.hit z24.p3 rfl).ev rfl ?_)
   refine l_q rfl (q_idx (j := k) rfl Tryz.underlying69 sz64 (s2_24.n5).ev ((At.hit z24 rfl).n4).ev (by omega) ?_)
   refine l_cell (j := k) (v := .int .u32 (IntKind.u32.wrap (((addL (cl c) (cl (stepsL (expandL s) c 80)) k).getD k 0) + ((cl (stepsL (expandL s) c 80)).getD k 0)))) rfl rfl rfl sz64 (At.hit z24.p5 rfl).ev ((At.hit z24.p4 rfl).n1).ev rfl kg2_22 (by rw [(nums_size _ _).trans (addL_len (cl c) _ k)]; omega) ?_
   intro w25 k25 u25
   rw [nums_put] at k25
   have kg4_25 := u25.blk kg4_22 (by omega)
   refine l_end (e_fresh z24.p6 ?_)
   intro a26 z26 m26
   have s2_26 := m26 _ _ (s2_24.n6)
   have s4_26 := m26 _ _ (s4_24.n6)
   have s24_26 := m26 _ _ (s24_24.n6)
   have s25_26 := m26 _ _ (s25_24.n6)
   have low26 := (low22.upd u25 geg2)
   clear m26
   refine e_in (e_then (c_region ?_))
   refine l_q rfl (q_add (((k + 1 : Nat) : Int)) rfl s25_26.ev rfl (i64_is (by omega) (by omega) (by omega)) ?_)
   refine l_q rfl (q_move _ _ rfl (At.hit z26 rfl).ev ?_)
   refine l_end (e_fresh z26.p2 ?_)
   intro a27 z27 m27
   have s2_27 := m27 _ _ (s2_26.n2)
   have s4_27 := m27 _ _ (s4_26.n2)
   have s24_27 := m27 _ _ (s24_26.n2)
   have s25_27 := m27 _ _ (At.hit z26.put rfl)
   clear m27
   exact ⟨z27, s2_27, s4_27, s24_27, s25_27, k25, kg4_25, low26⟩
  ·
   intro a28 w28 h
   obtain ⟨z28, s2_28, s4_28, s24_28, s25_28, kg2_28, kg4_28, low28⟩ := h
   clear kg2_19 kg4_19 low19 s24_21 s25_21 s2_21 s4_21 z21
   refine c_seq (c_region ?_)
   refine l_q rfl (q_lss false rfl s25_28.ev rfl (decide_eq_false (by omega)) ?_)
   refine l_end (e_fresh z28.put ?_)
   intro a29 z29 m29
   have s2_29 := m29 _ _ (s2_28.n1)
   have s4_29 := m29 _ _ (s4_28.n1)
   have s24_29 := m29 _ _ (s24_28.n1)
   have s25_29 := m29 _ _ (s25_28.n1)
   have s26_29 := m29 _ _ (At.hit z28 rfl)
   clear m29
   refine e_then (c_seq (c_false s26_29 ?_))
   refine wp_exit (x_then (x_then (in_exit (e_then (c_seq (c_region ?_))))))
   refine l_q rfl (q_row rfl Tryz.underlying69 rfl (sz69.trans (congrArg some ((nums_size _ _).trans (addL_len (cl c) _ 5)).symm)) s2_29.ev (fun _ e => by rw [e]; exact kg2_28) ?_)
   refine l_row rfl rfl rfl (sz69.trans (congrArg some ((nums_size _ _).trans (addL_len (cl c) _ 5)).symm)) (s4_29.n1).ev (At.hit z29 rfl).ev (nums_one _ _) kg4_28 (((nums_size _ _).trans (List.length_replicate)).trans ((nums_size _ _).trans (addL_len (cl c) _ 5)).symm) ?_
   intro w30 k30 u30
   have kg2_30 := u30.blk kg2_28 (by omega)
   refine l_end (e_fresh z29.put ?_)
   intro a31 z31 m31
   have s4_31 := m31 _ _ (s4_29.n1)
   have low31 := (low28.upd u30 geg4)
   clear m31
   refine e_then (wp_ret (r_cell rfl z31.defers s4_31 k30 Tryz.underlying69 rfl (sz69.trans (congrArg some ((nums_size _ _).trans (addL_len (cl c) _ 5)).symm)) ?_))
   exact ⟨rfl, low31⟩
theorem Sum2.calls (x y : Ch) (w0 : World) : Calls Tryz.prog 65 #[.agg (nums .u32 (cl x)), .agg (nums .u32 (cl y))] w0 fun e w' => e = .returned (.agg (nums .u32 (addL (cl x) (cl y) 5))) ∧ Low w0 w' := by
 refine c_fun (R := _) Tryz.func65 rfl 19 rfl (Nat.le_of_ble_eq_true rfl) ?_
 intro a z hA
 have s0 := hA 0 _ rfl
 have s1 := hA 1 _ rfl
 clear hA
 refine c_seq (c_region (l_box rfl rfl s0.ev ?_))
 intro g2 w1 hg1 k1 h1
 have geg2 := Nat.le_trans (Low.refl _).ge hg1
 refine l_box rfl rfl (s1.n1).ev ?_
 intro g3 w2 hg2 k2 h2
 have lt_g2_g3 := Nat.lt_of_lt_of_le (heap_lt k1) hg2
 have geg3 := Nat.le_trans h1.ge hg2
 have kg2_2 := h2.blk k1
 refine l_alloc rfl rfl zero69 ?_
 intro g4 w3 hg3 k3 h3
 have lt_g2_g4 := Nat.lt_of_lt_of_le (heap_lt kg2_2) hg3
 have lt_g3_g4 := Nat.lt_of_lt_of_le (heap_lt k2) hg3
 have geg4 := Nat.le_trans (h1.trans h2).ge hg3
 have kg2_3 := h3.blk kg2_2
 have kg3_3 := h3.blk k2
 refine l_end (e_fresh z.p3 ?_)
 intro a4 z4 m4
 have s2_4 := m4 _ _ ((At.hit z rfl).n2)
 have s3_4 := m4 _ _ ((At.hit z.put rfl).n1)
 have s4_4 := m4 _ _ (At.hit z.p2 rfl)
 have low4 := ((h1.trans h2).trans h3)
 clear m4
 refine e_then (c_seq (c_seq (c_region ?_)))
 refine l_q rfl (q_move _ _ rfl rfl ?_)
 refine l_end (e_fresh z4.put ?_)
 intro a5 z5 m5
 have s2_5 := m5 _ _ (s2_4.n1)
 have s3_5 := m5 _ _ (s3_4.n1)
 have s4_5 := m5 _ _ (s4_4.n1)
 have s6_5 := m5 _ _ (At.hit z4 rfl)
 clear m5
 refine e_then (wp_block (c_loop 5 (fun k a w => Fr 19 a ∧ At a 2 (.pointer (some ⟨g2, 0, none⟩)) ∧ At a 3 (.pointer (some ⟨g3, 0, none⟩)) ∧ At a 4 (.pointer (some ⟨g4, 0, none⟩)) ∧ At a 6 (.int .i64 ((k : Nat) : Int)) ∧ w.heap[g2]? = some (.cells (nums .u32 (addL (cl x) (cl y) k)) 69) ∧ w.heap[g3]? = some (.cells (nums .u32 (cl y)) 69) ∧ w.heap[g4]? = some (.cells (nums .u32 (List.replicate 5 0)) 69) ∧ Low w0 w) ?_ ?_ ?_))
 ·
  exact ⟨z5, s2_5, s3_5, s4_5, s6_5, kg2_3, kg3_3, k3, low4⟩
 ·
  intro k a6 w6 hk6 h
  obtain ⟨z6, s2_6, s3_6, s4_6, s6_6, kg2_6, kg3_6, kg4_6, low6⟩ := h
  clear k3 kg2_3 kg3_3 low4 s2_5 s3_5 s4_5 s6_5 z5
  refine c_seq (c_region ?_)
  refine l_q rfl (q_lss true rfl s6_6.ev rfl (decide_eq_true (by omega)) ?_)
  refine l_end (e_fresh z6.put ?_)
  intro a7 z7 m7
  have s2_7 := m7 _ _ (s2_6.n1)
  have s3_7 := m7 _ _ (s3_6.n1)
  have s4_7 := m7 _ _ (s4_6.n1)
  have s6_7 := m7 _ _ (s6_6.n1)
  have s7_7 := m7 _ _ (At.hit z6 rfl)
  clear m7
  refine e_then (c_seq (c_true s7_7 ?_))
  refine wp_skip (e_then (c_seq (wp_block (c_seq (c_region ?_)))))
  refine l_q rfl (q_move _ _ rfl s6_7.ev ?_)
  refine l_q rfl (q_assign _ _ rfl (At.hit z7 rfl).ev ?_)
  refine l_end (e_fresh z7.p2 ?_)
  intro a8 z8 m8
  have s2_8 := m8 _ _ (s2_7.n2)
  have s3_8 := m8 _ _ (s3_7.n2)
  have s4_8 := m8 _ _ (s4_7.n2)
  have s5_8 := m8 _ _ (At.hit z7.put rfl)
  have s6_8 := m8 _ _ (s6_7.n2)
  clear m8
  refine e_then (region_low_tail 8 hm (by kernel_rfl) ?_)
  simp only [List.take_succ_cons, List.take_zero, List.drop_succ_cons, List.drop_zero]
  refine qs (q_move _ _ rfl s5_8.ev ?_)
  refine qs (q_idx (j := k) rfl Tryz.underlying69 sz64 (s2_8.n1).ev (At.hit z8 rfl).ev (by omega) ?_)
  refine qs (q_cell (.int .u32 ((addL (cl x) (cl y) k).getD k 0)) rfl Tryz.underlying64 (At.hit z8.put rfl).ev (fun _ h => nums_cell (h.blk kg2_6) k (by rw [(addL_len (cl x) _ k)]; omega)) ?_)
  refine qs (q_move _ _ rfl (s5_8.n3).ev ?_)
  refine qs (q_idx (j := k) rfl Tryz.underlying69 sz64 (s3_8.n4).ev (At.hit z8.p3 rfl).ev (by omega) ?_)
  refine qs (q_cell (.int .u32 ((cl y).getD k 0)) rfl Tryz.underlying64 (At.hit z8.p4 rfl).ev (fun _ h => nums_cell (h.blk kg3_6) k (by rw [(cl_len y)]; omega)) ?_)
  refine qs (q_add _ rfl ((At.hit z8.p2 rfl).n3).ev (At.hit z8.p5 rfl).ev rfl ?_)
  refine qs (q_idx (j := k) rfl Tryz.underlying69 sz64 (s2_8.n7).ev ((At.hit z8 rfl).n6).ev (by omega) ?_)
  refine qz ?_
  intro w9 h9
  have kg2_9 := h9.blk kg2_6
  have kg3_9 := h9.blk kg3_6
  have kg4_9 := h9.blk kg4_6
  refine l_cell (j := k) (v := .int .u32 (IntKind.u32.wrap (((addL (cl x) (cl y) k).getD k 0) + ((cl y).getD k 0)))) rfl rfl rfl sz64 (At.hit z8.p7 rfl).ev ((At.hit z8.p6 rfl).n1).ev rfl kg2_9 (by rw [(nums_size _ _).trans (addL_len (cl x) _ k)]; omega) ?_
  intro w10 k10 u10
  rw [nums_put] at k10
  have kg3_10 := u10.blk kg3_9 (by omega)
  have kg4_10 := u10.blk kg4_9 (by omega)
  refine l_end (e_fresh z8.p8 ?_)
  intro a11 z11 m11
  have s2_11 := m11 _ _ (s2_8.n8)
  have s3_11 := m11 _ _ (s3_8.n8)
  have s4_11 := m11 _ _ (s4_8.n8)
  have s6_11 := m11 _ _ (s6_8.n8)
  have low11 := ((low6.trans h9).upd u10 geg2)
  clear m11
  refine e_in (e_then (c_region ?_))
  refine l_q rfl (q_add (((k + 1 : Nat) : Int)) rfl s6_11.ev rfl (i64_is (by omega) (by omega) (by omega)) ?_)
  refine l_q rfl (q_move _ _ rfl (At.hit z11 rfl).ev ?_)
  refine l_end (e_fresh z11.p2 ?_)
  intro a12 z12 m12
  have s2_12 := m12 _ _ (s2_11.n2)
  have s3_12 := m12 _ _ (s3_11.n2)
  have s4_12 := m12 _ _ (s4_11.n2)
  have s6_12 := m12 _ _ (At.hit z11.put rfl)
  clear m12
  exact ⟨z12, s2_12, s3_12, s4_12, s6_12, k10, kg3_10, kg4_10, low11⟩
 ·
  intro a13 w13 h
  obtain ⟨z13, s2_13, s3_13, s4_13, s6_13, kg2_13, kg3_13, kg4_13, low13⟩ := h
  clear k3 kg2_3 kg3_3 low4 s2_5 s3_5 s4_5 s6_5 z5
  refine c_seq (c_region ?_)
  refine l_q rfl (q_lss false rfl s6_13.ev rfl (decide_eq_false (by omega)) ?_)
  refine l_end (e_fresh z13.put ?_)
  intro a14 z14 m14
  have s2_14 := m14 _ _ (s2_13.n1)
  have s3_14 := m14 _ _ (s3_13.n1)
  have s4_14 := m14 _ _ (s4_13.n1)
  have s6_14 := m14 _ _ (s6_13.n1)
  have s7_14 := m14 _ _ (At.hit z13 rfl)
  clear m14
  refine e_then (c_seq (c_false s7_14 ?_))
  refine wp_exit (x_then (x_then (in_exit (e_then (c_seq (c_region ?_))))))
  refine l_q rfl (q_row rfl Tryz.underlying69 rfl (sz69.trans (congrArg some ((nums_size _ _).trans (addL_len (cl x) _ 5)).symm)) s2_14.ev (fun _ e => by rw [e]; exact kg2_13) ?_)
  refine l_row rfl rfl rfl (sz69.trans (congrArg some ((nums_size _ _).trans (addL_len (cl x) _ 5)).symm)) (s4_14.n1).ev (At.hit z14 rfl).ev (nums_one _ _) kg4_13 (((nums_size _ _).trans (List.length_replicate)).trans ((nums_size _ _).trans (addL_len (cl x) _ 5)).symm) ?_
  intro w15 k15 u15
  have kg2_15 := u15.blk kg2_13 (by omega)
  have kg3_15 := u15.blk kg3_13 (by omega)
  refine l_end (e_fresh z14.put ?_)
  intro a16 z16 m16
  have s4_16 := m16 _ _ (s4_14.n1)
  have low16 := (low13.upd u15 geg4)
  clear m16
  refine e_then (wp_ret (r_cell rfl z16.defers s4_16 k15 Tryz.underlying69 rfl (sz69.trans (congrArg some ((nums_size _ _).trans (addL_len (cl x) _ 5)).symm)) ?_))
  exact ⟨rfl, low16⟩
end Go.Proofs.YtfjhnnpdaggnbaaGreatDoor.Q
end
