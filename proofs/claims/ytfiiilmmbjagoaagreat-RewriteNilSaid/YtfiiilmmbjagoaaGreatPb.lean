/-
  The plain machine tells the truth of the model's machine: code, loops, calls, regions whose order is drawn; summaries of calls. Each theorem names its conditions.
-/
import Derived.Test.YtfiiilmmbjagoaaGreatPa
import Derived.Calls
import Derived.Orders
import Derived.Below
namespace Go.PI

/-! ### The machine's own steps, in frames of rounds too -/
/-- A frame at some items, with an act. -/
def put (b : Frame) (a : Act) (todo : List Item) : Frame := { b with tmps := a.tmps, todo, defers := a.defers, mode := .run }

section moves
variable {P : Program} {b : Frame} {a : Act} {k : List Item} {cs : List Frame} {w : World} {ops : Array Oper}
theorem put_eval (todo : List Item) : (put b a todo).eval = a.eval := by
  funext x
  cases x <;> rfl
theorem s_skip : step P (lone (put b a (.code .skip :: k)) cs w) = .next (lone (put b a k) cs w) :=
  step_lone_go (by simp [stepG, stepG.exec, put])
theorem s_label {l : Nat} : step P (lone (put b a (.code (.label l) :: k)) cs w) = .next (lone (put b a k) cs w) :=
  step_lone_go (by simp [stepG, stepG.exec, put])
theorem s_inBlock {id : Nat} : step P (lone (put b a (.inBlock id :: k)) cs w) = .next (lone (put b a k) cs w) :=
  step_lone_go (by simp [stepG, stepG.exec, put])
theorem s_inScope {c : Code} : step P (lone (put b a (.inScope c :: k)) cs w) = .next (lone (put b a k) cs w) :=
  step_lone_go (by simp [stepG, stepG.exec, put])
theorem s_seq {x y : Code} : step P (lone (put b a (.code (.seq x y) :: k)) cs w) = .next (lone (put b a (.code x :: .code y :: k)) cs w) :=
  step_lone_go (by simp [stepG, stepG.exec, put])
theorem s_cond {c : Operand} {x y : Code} {t : Bool} (h : a.eval c = .bool t) : step P (lone (put b a (.code (.cond c x y) :: k)) cs w) = .next (lone (put b a (.code (if t then x else y) :: k)) cs w) :=
  step_lone_go (by
    have := congrFun (put_eval (b := b) (a := a) (.code (.cond c x y) :: k)) c
    simp only [put] at this
    simp [stepG, stepG.exec, put, this, h])
theorem s_block {id : Nat} {c : Code} : step P (lone (put b a (.code (.block id c) :: k)) cs w) = .next (lone (put b a (.code c :: .inBlock id :: k)) cs w) :=
  step_lone_go (by simp [stepG, stepG.exec, put])
theorem s_loop {c : Code} : step P (lone (put b a (.code (.loop c) :: k)) cs w) = .next (lone (put b a (.code c :: .inLoop c :: k)) cs w) :=
  step_lone_go (by simp [stepG, stepG.exec, put])
theorem s_inLoop {c : Code} : step P (lone (put b a (.inLoop c :: k)) cs w) = .next (lone (put b a (.code c :: .inLoop c :: k)) cs w) :=
  step_lone_go (by simp [stepG, stepG.exec, put])
theorem s_scope {c : Code} : step P (lone (put b a (.code (.scope c) :: k)) cs w) = .next (lone (put b a (.code c :: .inScope c :: k)) cs w) :=
  step_lone_go (by simp [stepG, stepG.exec, put])
theorem s_exit {id : Nat} {k' : List Item} (h : exitTo id k = some k') : step P (lone (put b a (.code (.exit id) :: k)) cs w) = .next (lone (put b a k') cs w) :=
  step_lone_go (by simp [stepG, stepG.exec, put, h])
theorem s_region {id : Nat} : step P (lone (put b a (.code (.region id ops false) :: k)) cs w) = .next (lone (put b a (.inRegion ops (List.range ops.size) :: k)) cs w) :=
  step_lone_go (by simp [stepG, stepG.exec, put])
theorem s_region_draw {id : Nat} : step P (lone (put b a (.code (.region id ops true) :: k)) cs w) =
      .next (lone (put b a (.inRegion ops (Region.schedule (P.follows .mixedOrders) ops (w.tape w.drawn (.order b.fn id))) :: k)) cs { w with drawn := w.drawn + 1 }) :=
  step_lone_go (by simp [stepG, stepG.exec, put, choose, Sem.run, Question.forced, Question.cut])
theorem s_region_end : step P (lone (put b a (.inRegion ops [] :: k)) cs w) = .next (lone (put b a k) cs w) :=
  step_lone_go (by simp [stepG, stepG.exec, put])
theorem put_finish (i : Nat) (rest : List Nat) (v : Value) : (put b a (.inRegion ops (i :: rest) :: k)).finish v = put b (a.put ((ops[i]?).bind (·.dst)) v) (.inRegion ops rest :: k) := by
  cases h : (ops[i]?).bind (·.dst) <;> simp [Frame.finish, put, Act.put, h]
theorem s_op_skip {i : Nat} {rest : List Nat} (h : ((ops[i]?).map (Region.wanted · (yielded ops a.tmps))).getD false = false) :
    step P (lone (put b a (.inRegion ops (i :: rest) :: k)) cs w) = .next (lone (put b (a.put ((ops[i]?).bind (·.dst)) undef) (.inRegion ops rest :: k)) cs w) := by
  rw [← put_finish]
  exact step_lone_go (by
    have h' := h
    simp only [put] at *
    simp [stepG, stepG.exec, h'])
/-- An operation that comes to a value. -/
theorem stepG_put {i : Nat} {rest : List Nat} {o : Oper} (ho : ops[i]? = some o) (hw : Region.wanted o (yielded ops a.tmps) = true) (hd : ∀ c, o.op ≠ .defer c) :
    stepG P true { frame := put b a (.inRegion ops (i :: rest) :: k), callers := cs, status := .running, dying := none } w =
      stepG.apply P true (put b a (.inRegion ops (i :: rest) :: k)) cs none (execOp a.eval o) w := by
  have he := put_eval (b := b) (a := a) (.inRegion ops (i :: rest) :: k)
  simp only [put] at he
  simp only [stepG, stepG.exec, stepG.oper, Frame.oper?, put, ho, Option.map_some, Option.getD_some, hw, if_true, he]
  generalize o.op = op at hd
  cases hb : b.roundOf with
  | none => rfl
  | some l =>
    cases op <;> first | rfl | exact absurd rfl (hd _)
theorem s_op {i : Nat} {rest : List Nat} {o : Oper} {nx : Next} {v : Value} {w' : World} (ho : ops[i]? = some o) (hw : Region.wanted o (yielded ops a.tmps) = true) (hd : ∀ c, o.op ≠ .defer c)
    (hr : (execOp a.eval o).run P w = .ok nx w') (hn : nx = .value v ∨ nx = .skip ∧ v = undef) :
    step P (lone (put b a (.inRegion ops (i :: rest) :: k)) cs w) = .next (lone (put b (a.put o.dst v) (.inRegion ops rest :: k)) cs w') := by
  have hf := put_finish (b := b) (a := a) (ops := ops) (k := k) i rest v
  rw [ho] at hf
  simp only [Option.bind_some] at hf
  rw [← hf]
  refine step_lone_go ?_
  rw [stepG_put ho hw hd]
  simp only [stepG.apply]
  rcases hn with rfl | ⟨rfl, rfl⟩ <;> simp [hr]
/-- What frame a call enters. -/
def entered (P : Program) : Next → Option Frame
  | .enter f args => some (Frame.enter P f args .normal)
  | .round l f tmps assign body => some (Frame.round l f tmps assign body .normal)
  | _ => none
theorem s_op_call {i : Nat} {rest : List Nat} {o : Oper} {nx : Next} {fr : Frame} {w' : World} (ho : ops[i]? = some o) (hw : Region.wanted o (yielded ops a.tmps) = true) (hd : ∀ c, o.op ≠ .defer c)
    (hr : (execOp a.eval o).run P w = .ok nx w') (hn : entered P nx = some fr) :
    step P (lone (put b a (.inRegion ops (i :: rest) :: k)) cs w) = .next (lone fr (put b a (.inRegion ops (i :: rest) :: k) :: cs) w') := by
  refine step_lone_go ?_
  rw [stepG_put ho hw hd]
  simp only [stepG.apply]
  cases nx <;> simp only [entered] at hn <;> (try (cases hn; done)) <;> (injection hn with hn; subst hn; simp [hr, put])
end moves
end Go.PI
namespace Go.PI
section moves
variable {P : Program} {b : Frame} {a : Act} {k : List Item} {cs : List Frame} {w : World} {ops : Array Oper} {c : Frame}
theorem s_ret (hb : b.roundOf = none) : step P (lone (put b a (.code .ret :: k)) cs w) = .next (lone { put b a (.code .ret :: k) with mode := .returning } cs w) :=
  step_lone_go (by simp [stepG, stepG.exec, put, hb])
theorem s_end (hb : b.roundOf = none) : step P (lone (put b a []) cs w) = .next (lone { put b a [] with mode := .returning } cs w) :=
  step_lone_go (by simp [stepG, stepG.exec, put, hb])
theorem s_take {fr : Frame} {r : Nat} {ds : List Deferred} (hm : fr.mode = .returning) (hd : fr.defers = { target := .collected r, args := #[] } :: ds) (hr : w.heap[r]? = some (.deferred (some []))) :
    step P (lone fr cs w) = .next (lone { fr with defers := ds } cs { w with heap := w.heap.setIfInBounds r (.deferred none) }) := by
  have h1 : (Instr.takeDeferred r).run P w = .ok [] { w with heap := w.heap.setIfInBounds r (.deferred none) } := by
    simp [Instr.takeDeferred, getObj, setObj, Sem.run_bind, Sem.run, hr, Result.andThen]
  exact step_lone_go (by simp [stepG, unwind, hm, hd, h1])
theorem s_begin {l : Nat} {r : Loop} (hb : b.roundOf = some l) (hl : w.heap[l]? = some (.loop r)) (hs : r.state = .ready) :
    step P (lone (put b a (.beginRound :: k)) cs w) = .next (lone (put b a k) cs { w with heap := w.heap.setIfInBounds l (.loop { r with state := .busy }) }) := by
  have h1 : (Instr.beginRound l).run P w = .ok () { w with heap := w.heap.setIfInBounds l (.loop { r with state := .busy }) } := by
    simp [Instr.beginRound, Instr.getLoop, getObj, setObj, Sem.run_bind, Sem.run, hl, hs, Result.andThen]
  exact step_lone_go (by simp [stepG, stepG.exec, stepG.apply, put, hb, h1, Frame.finish])
theorem run_endRound {l : Nat} {r : Loop} (hl : w.heap[l]? = some (.loop r)) (jump : Option Code) :
    (Instr.endRound l jump).run P w = .ok (.bool jump.isNone) { w with heap := w.heap.setIfInBounds l (.loop { r with state := if jump.isNone then .ready else .done, pending := jump }) } := by
  simp [Instr.endRound, Instr.getLoop, getObj, setObj, Sem.run_bind, Sem.run, hl, Result.andThen]
theorem s_leave_end {l : Nat} {r : Loop} (hb : b.roundOf = some l) (hk : b.kind = .normal) (hl : w.heap[l]? = some (.loop r)) :
    step P (lone (put b a []) (c :: cs) w) = .next (lone (c.finish (.bool true)) cs { w with heap := w.heap.setIfInBounds l (.loop { r with state := .ready, pending := none }) }) := by
  have h1 := run_endRound (P := P) hl none
  exact step_lone_go (by simp [stepG, stepG.exec, doReturn, put, hb, hk, h1])
theorem s_leave_ret {l : Nat} {r : Loop} (hb : b.roundOf = some l) (hk : b.kind = .normal) (hl : w.heap[l]? = some (.loop r)) :
    step P (lone (put b a (.code .ret :: k)) (c :: cs) w) = .next (lone (c.finish (.bool false)) cs { w with heap := w.heap.setIfInBounds l (.loop { r with state := .done, pending := some .ret }) }) := by
  have h1 := run_endRound (P := P) hl (some .ret)
  exact step_lone_go (by simp [stepG, stepG.exec, doReturn, put, hb, hk, h1])
theorem s_leave_exit {l id : Nat} {r : Loop} (hb : b.roundOf = some l) (hk : b.kind = .normal) (hl : w.heap[l]? = some (.loop r)) (he : exitTo id k = none) :
    step P (lone (put b a (.code (.exit id) :: k)) (c :: cs) w) = .next (lone (c.finish (.bool false)) cs { w with heap := w.heap.setIfInBounds l (.loop { r with state := .done, pending := some (.exit id) }) }) := by
  have h1 := run_endRound (P := P) hl (some (.exit id))
  exact step_lone_go (by simp [stepG, stepG.exec, doReturn, put, hb, hk, h1, he])
theorem s_endLoop {l : Nat} {r : Loop} (hl : w.heap[l]? = some (.loop r)) (hs : r.state ≠ .busy) :
    step P (lone (put b a (.endRangeFunc l :: k)) cs w) = .next (lone (put b a ((r.pending.map Item.code).toList ++ k)) cs { w with heap := w.heap.setIfInBounds l (.loop { r with state := .exhausted }) }) := by
  have h1 : (Instr.endLoop l).run P w = .ok r.pending { w with heap := w.heap.setIfInBounds l (.loop { r with state := .exhausted }) } := by
    simp [Instr.endLoop, Instr.getLoop, getObj, setObj, Sem.run_bind, Sem.run, hl, hs, Result.andThen]
  exact step_lone_go (by simp [stepG, stepG.exec, put, h1])
theorem put_finish_range (l : Nat) (v : Value) : (put b a (.inRangeFunc l :: k)).finish v = put b a (.endRangeFunc l :: k) := rfl
/-- The call that a range over a function makes. -/
def rangeCall (a : Act) (f : Operand) (l : Nat) : Sem Next := do
  let d ← resolve a.eval { callee := .value f, args := #[.const (.func (.yield l) #[] #[])], argTypes := #[] } 0
  invoke d.target d.args
theorem s_range {f : Operand} {ps : Array Tmp} {x y : Code} {l : Nat} {mark : List Deferred} {w1 w2 : World} {nx : Next} {fr : Frame} (he : (Instr.enterLoop b.fn a.tmps ps x y b.roundOf).run P w = .ok (l, mark) w1)
    (hr : (rangeCall a f l).run P w1 = .ok nx w2) (hn : entered P nx = some fr) :
    step P (lone (put b a (.code (.rangeFunc f ps x y) :: k)) cs w) = .next (lone fr (put b { a with defers := mark ++ a.defers } (.inRangeFunc l :: k) :: cs) w2) := by
  have h2 := put_eval (b := b) (a := { a with defers := mark ++ a.defers }) (.inRangeFunc l :: k)
  simp only [put] at h2
  have h3 : ({ a with defers := mark ++ a.defers } : Act).eval = a.eval := by funext z; cases z <;> rfl
  rw [h3] at h2
  unfold rangeCall at hr
  refine step_lone_go ?_
  simp only [stepG, stepG.exec, put]
  simp only [he, GStep.bare_after, Sem.runT_fst, stepG.apply, h2]
  cases nx <;> simp only [entered] at hn <;> (try (cases hn; done)) <;> (injection hn with hn; subst hn; simp [hr])
theorem enterLoop_none (fn : FuncId) (tmps : Array Value) (ps : Array Tmp) (x y : Code) : (Instr.enterLoop fn tmps ps x y none).run P w =
    .ok (w.heap.size + 1, [{ target := .collected w.heap.size, args := #[] }]) { w with heap := (w.heap.push (.deferred (some []))).push (.loop { state := .ready, pending := none, fn, tmps, params := ps, assign := x, body := y, defers := w.heap.size }) } := by
  simp [Instr.enterLoop, Sem.run_bind, Result.andThen]
  rfl
theorem enterLoop_some (fn : FuncId) (tmps : Array Value) (ps : Array Tmp) (x y : Code) {l : Nat} {r : Loop} (hl : w.heap[l]? = some (.loop r)) : (Instr.enterLoop fn tmps ps x y (some l)).run P w =
    .ok (w.heap.size, []) { w with heap := w.heap.push (.loop { state := .ready, pending := none, fn, tmps, params := ps, assign := x, body := y, defers := r.defers }) } := by
  simp [Instr.enterLoop, Instr.getLoop, getObj, Sem.run_bind, Sem.run, Result.andThen, hl]
end moves
end Go.PI
namespace Go.PI
section
variable {W W' W1 : Wd} {w w' w1 w2 : World} {P : Program} {T : Pg} {C : Cx} {ρ : Regs} {a : Act} {n : Nat} {p : PV} {h h' : H}

/-! ### results -/
theorem run_list_mapM {α : Type} (f : α → Sem Value) : ∀ (l : List α) (vs : List Value), l.length = vs.length → (∀ (i : Nat) x v, l[i]? = some x → vs[i]? = some v → (f x).run P w = .ok v w) → (l.mapM f).run P w = .ok vs w
  | [], vs, hl, _ => by
    have : vs = [] := List.eq_nil_of_length_eq_zero hl.symm
    subst this; rfl
  | x :: l, [], hl, _ => by simp at hl
  | x :: l, v :: vs, hl, h => by
    rw [List.mapM_cons]
    have h1 := h 0 x v rfl rfl
    have h2 := run_list_mapM f l vs (by simpa using hl) (fun i y u hy hu => h (i + 1) y u (by simpa using hy) (by simpa using hu))
    simp [Sem.run_bind, h1, h2]
/-- One result. -/
def resOp (tmps : Array Value) : ResultVar → Sem Value
  | .tmp t => pure (tmps.getD t undef)
  | .cell a t => do loadVar t (← asAddr (tmps.getD a undef))
theorem res1_rel (hT : TyS P T) (hh : HRel W w h) {tmps : Array Value} (hr : RegsRel W w ρ tmps n) {x : ResultVar} (hs : res1 T ρ h x = some p) :
    ∃ v, (resOp tmps x).run P w = .ok v w ∧ Rel W w p v := by
  cases x with
  | tmp t =>
    simp only [res1] at hs
    obtain ⟨v, hv, hrel⟩ := hr.get t p hs
    exact ⟨v, by simp [resOp, hv], hrel⟩
  | cell c t =>
    simp only [res1] at hs
    split at hs
    · rename_i ti cs ht hm
      obtain ⟨q, hq, hm⟩ := Option.bind_eq_some_iff.1 hm
      obtain ⟨v, hv, hrel⟩ := hr.get c q hq
      obtain ⟨ad, rfl, h0 | ⟨b, o, rfl, h1⟩⟩ := mem_rel hh hrel hm
      · subst h0
        obtain ⟨u, h1, h2⟩ := loadVar_nil (W := W) (w := w) (hT _ _ ht) (a := ad) hs
        exact ⟨u, by simp [resOp, hv, asAddr, h1], h2⟩
      · obtain ⟨u, h2, h3⟩ := loadVar_rel (hT _ _ ht) h1 hs
        exact ⟨u, by simp [resOp, hv, asAddr, h2], h3⟩
    · cases hs
theorem resAll_rel (hT : TyS P T) (hh : HRel W w h) {tmps : Array Value} (hr : RegsRel W w ρ tmps n) : ∀ {l : List ResultVar} {ps : List PV}, resAll T ρ h l = some ps →
    ∃ vs, RelL W w ps vs ∧ l.length = vs.length ∧ ∀ (i : Nat) x v, l[i]? = some x → vs[i]? = some v → (resOp tmps x).run P w = .ok v w
  | [], ps, hs => by
    simp only [resAll] at hs
    injection hs with hs; subst hs
    exact ⟨[], by simp [RelL], rfl, fun i x v hx => by simp at hx⟩
  | x :: l, ps, hs => by
    simp only [resAll] at hs
    split at hs
    · rename_i q qs hq hqs
      injection hs with hs; subst hs
      obtain ⟨v, h1, h2⟩ := res1_rel hT hh hr hq
      obtain ⟨vs, h3, h4, h5⟩ := resAll_rel hT hh hr hqs
      refine ⟨v :: vs, by simp only [RelL]; exact ⟨v, vs, rfl, h2, h3⟩, by simp [h4], fun i y u hy hu => ?_⟩
      cases i with
      | zero => simp at hy hu; subst hy; subst hu; exact h1
      | succ i => exact h5 i y u (by simpa using hy) (by simpa using hu)
    · cases hs
theorem results_rel (hT : TyS P T) (hh : HRel W w h) {tmps : Array Value} (hr : RegsRel W w ρ tmps n) {fn : Func} (hs : PI.results T ρ h fn.results.toList = some p) : ∃ v, (Go.results fn tmps).run P w = .ok v w ∧ Rel W w p v := by
  unfold PI.results at hs
  have key : ∀ vs : List Value, fn.results.toList.length = vs.length → (∀ (i : Nat) x v, fn.results.toList[i]? = some x → vs[i]? = some v → (resOp tmps x).run P w = .ok v w) →
      (Go.results fn tmps).run P w = .ok (if h : vs.toArray.size = 1 then vs.toArray[0] else .tuple vs.toArray) w := fun vs hl hv => by
    have h1 := run_list_mapM (P := P) (w := w) _ fn.results.toList vs hl hv
    have h2 : Go.results fn tmps = (do
        let vs ← fn.results.mapM (resOp tmps)
        pure (if h : vs.size = 1 then vs[0] else .tuple vs)) := by
      unfold Go.results
      congr 1
    rw [h2, Sem.run_bind, Array.mapM_eq_mapM_toList]
    simp only [map_eq_pure_bind, Sem.run_bind, h1, Result.andThen_ok, Sem.run_pure]
  split at hs
  · rename_i q hq
    injection hs with hs; subst hs
    obtain ⟨vs, h3, h4, h5⟩ := resAll_rel hT hh hr hq
    simp only [RelL] at h3
    obtain ⟨v, vs, rfl, h3, rfl⟩ := h3
    exact ⟨v, by rw [key _ h4 h5]; simp, h3⟩
  · rename_i qs hne hq
    injection hs with hs; subst hs
    obtain ⟨vs, h3, h4, h5⟩ := resAll_rel hT hh hr hq
    refine ⟨.tuple vs.toArray, ?_, by simp only [Rel]; exact ⟨_, rfl, by simpa using h3⟩⟩
    rw [key _ h4 h5]
    rw [dif_neg]
    intro hsz
    have hl := h3.length
    cases qs with
    | nil => simp at hl hsz; rw [hsz] at hl; simp at hl
    | cons q qs =>
      cases qs with
      | nil => exact hne q rfl
      | cons q' qs => simp at hl hsz; omega
  · cases hs

/-! ### the marks of loops among a frame's deferred calls -/
def Marks (W : Wd) (w : World) (lo : Nat) : Nat → List Deferred → Prop
  | _, [] => True
  | hi, d :: ds => ∃ r, d = { target := .collected r, args := #[] } ∧ lo ≤ r ∧ r < hi ∧ Imm W w r ∧ w.heap[r]? = some (.deferred (some [])) ∧ Marks W w lo r ds
theorem Marks.mono (e : Ext C h W w W' w') {lo : Nat} : ∀ {ds : List Deferred} {hi hi' : Nat}, hi ≤ hi' → Marks W w lo hi ds → Marks W' w' lo hi' ds
  | [], _, _, _, _ => trivial
  | d :: ds, hi, hi', hle, hm => by
    obtain ⟨r, h1, h2, h3, h4, h5, h6⟩ := hm
    exact ⟨r, h1, h2, by omega, (e.imm h4).1, (e.imm h4).2.trans h5, h6.mono e (Nat.le_refl _)⟩
theorem Marks.append {lo m : Nat} : ∀ {ds es : List Deferred} {hi : Nat}, lo ≤ m → Marks W w m hi ds → Marks W w lo m es → Marks W w lo (max hi m) (ds ++ es)
  | [], es, hi, _, _, he => by
    cases es with
    | nil => trivial
    | cons e es =>
      obtain ⟨r, h1, h2, h3, h4⟩ := he
      exact ⟨r, h1, h2, by omega, h4⟩
  | d :: ds, es, hi, hlm, hd, he => by
    obtain ⟨r, h1, h2, h3, h4, h5, h6⟩ := hd
    refine ⟨r, h1, by omega, by omega, h4, h5, ?_⟩
    have := Marks.append hlm h6 he
    rwa [Nat.max_eq_left h2] at this
/-- Marks' blocks are taken: the rest is as it was. -/
structure Took (W : Wd) (w w' : World) (lo : Nat) : Prop where
  size : w'.heap.size = w.heap.size
  same : ∀ b, b < lo → w'.heap[b]? = w.heap[b]?
  rows : ∀ r x, W.β r = some x → w'.heap[x.b]? = w.heap[x.b]?
  mon : Mon W w W w'
  os : w'.os = w.os
  tape : w'.tape = w.tape
  output : w'.output = w.output
theorem Took.refl (W : Wd) (w : World) (lo : Nat) : Took W w w lo := ⟨rfl, fun _ _ => rfl, fun _ _ _ => rfl, ⟨fun _ _ _ _ h _ => ⟨h, rfl⟩, Nat.le_refl _, fun _ _ _ h => .inl h, fun _ _ h => h⟩, rfl, rfl, rfl⟩
theorem take_all {lo : Nat} {cs : List Frame} : ∀ {ds : List Deferred} {hi : Nat} {w : World} {fr : Frame}, Marks W w lo hi ds → fr.mode = .returning → fr.defers = ds → ∃ w', Steps P (lone fr cs w) (lone { fr with defers := [] } cs w') ∧ Took W w w' lo
  | [], hi, w, fr, _, _, hd => ⟨w, by rw [← hd]; exact .refl _ _, .refl _ _ _⟩
  | d :: ds, hi, w, fr, hm, hmode, hd => by
    obtain ⟨r, rfl, h2, h3, h4, h5, h6⟩ := hm
    have hstep := s_take (P := P) (cs := cs) hmode hd h5
    have hsame : ∀ b, b ≠ r → (w.heap.setIfInBounds r (.deferred none))[b]? = w.heap[b]? := fun b hb => by simp [Ne.symm hb]
    have himm : ∀ b, Imm W w b → Imm W { w with heap := w.heap.setIfInBounds r (.deferred none) } b := fun b hb => ⟨by simpa using hb.1, hb.2⟩
    have hmk : ∀ (ds : List Deferred) (m : Nat), m ≤ r → Marks W w lo m ds → Marks W { w with heap := w.heap.setIfInBounds r (.deferred none) } lo m ds := by
      intro ds
      induction ds with
      | nil => intro m _ _; trivial
      | cons d ds ih =>
        intro m hmr hm
        obtain ⟨q, g1, g2, g3, g4, g5, g6⟩ := hm
        exact ⟨q, g1, g2, g3, himm _ g4, by rw [hsame q (by omega)]; exact g5, ih q (by omega) g6⟩
    obtain ⟨w', hs, ht⟩ := take_all (fr := { fr with defers := ds }) (hmk ds r (Nat.le_refl _) h6) hmode rfl
    refine ⟨w', .head hstep hs, ?_⟩
    have hrows : ∀ q x, W.β q = some x → x.b ≠ r := fun q x hx => h4.2.1 q x hx
    exact
      { size := by rw [ht.size]; simp
        same := fun b hb => by rw [ht.same b hb]; exact hsame b (by omega)
        rows := fun q x hx => by rw [ht.rows q x hx]; exact hsame _ (hrows q x hx)
        mon := ⟨fun b vs e z hb hc => by
            have hbr : b ≠ r := by rintro rfl; rw [h5] at hc; cases hc
            have h7 := ht.mon.imm b vs e z (himm b hb) (by rw [hsame b hbr]; exact hc)
            exact ⟨h7.1, h7.2.trans (hsame b hbr)⟩, Nat.le_refl _, fun _ _ _ h => .inl h, fun _ _ h => h⟩
        os := ht.os
        tape := ht.tape
        output := ht.output }
theorem Took.hrel {lo : Nat} (t : Took W w w' lo) (hh : HRel W w h) : HRel W w' h :=
  ⟨hh.n, fun r po h1 h2 => let ⟨x, hx, hp⟩ := hh.rows r po h1 h2; ⟨x, hx, hp.mon t.mon (t.rows r x hx)⟩, fun r x hx => ⟨(hh.lt r x hx).1, by rw [t.size]; exact (hh.lt r x hx).2⟩, hh.inj, hh.dead, fun b hb => by rw [t.size]; exact hh.offlt b hb, hh.offno⟩
theorem Goes.took (g : Goes C h W w h' W1 w1) (t : Took W1 w1 w2 w.heap.size) : Goes C h W w h' W1 w2 where
  ext :=
    { size := by rw [t.size]; exact g.ext.size
      same := fun b hb hA => by rw [t.same b hb]; exact g.ext.same b hb hA
      n := g.ext.n
      up := g.ext.up
      down := g.ext.down
      dead := g.ext.dead
      off := g.ext.off
      new := g.ext.new
      os := t.os.trans g.ext.os
      tape := t.tape.trans g.ext.tape
      output := t.output.trans g.ext.output }
  rel := t.hrel g.rel
  live := g.live
  kept := g.kept
end
end Go.PI
namespace Go.PI

/-! ### temporaries -/
theorem Tr.get_e (d i : Nat) : Tr.get d .e i = none := by cases d <;> rfl
theorem Tr.get_val (t : Tr) (d : Nat) : t.get (d + 1) 0 = t.val := by cases t <;> rfl
theorem Tr.get_step (t : Tr) (d m : Nat) : t.get (d + 1) (m + 1) = bif Nat.beq (m % 2) 0 then t.left.get d (m / 2) else t.right.get d (m / 2) := by
  cases t with
  | e => simp [Tr.get, Tr.left, Tr.right, Tr.get_e]
  | b v x y => rfl
theorem Tr.get_set : ∀ (d : Nat) (t : Tr) (i j : Nat) (v : PV), i + 1 < 2 ^ d → (t.set d i v).get d j = if i = j then some v else t.get d j
  | 0, t, i, j, v, hi => by simp at hi
  | d + 1, t, 0, 0, v, _ => rfl
  | d + 1, t, 0, m + 1, v, _ => by
    rw [Tr.get_step t d m]
    simp [Tr.set, Tr.get]
  | d + 1, t, k + 1, 0, v, _ => by
    rw [Tr.get_val t d]
    simp only [Tr.set]
    cases Nat.beq (k % 2) 0 <;> simp [Tr.get]
  | d + 1, t, k + 1, m + 1, v, hi => by
    have hk : k / 2 + 1 < 2 ^ d := by rw [Nat.pow_succ] at hi; omega
    rw [Tr.get_step t d m]
    simp only [Tr.set]
    have e0 : ∀ n, n % 2 = 0 → Nat.beq (n % 2) 0 = true := fun n h => by rw [h]; rfl
    have e1 : ∀ n, n % 2 = 1 → Nat.beq (n % 2) 0 = false := fun n h => by rw [h]; rfl
    rcases Nat.mod_two_eq_zero_or_one k with h1 | h1 <;> rcases Nat.mod_two_eq_zero_or_one m with h2 | h2
    · simp only [e0 k h1, e0 m h2, cond_true, Tr.get]
      rw [Tr.get_set d _ _ _ _ hk]
      by_cases he : k = m
      · subst he; simp
      · rw [if_neg (by omega), if_neg (by omega)]
    · rw [if_neg (by omega)]
      simp only [e0 k h1, e1 m h2, cond_true, cond_false, Tr.get]
    · rw [if_neg (by omega)]
      simp only [e1 k h1, e0 m h2, cond_true, cond_false, Tr.get]
    · simp only [e1 k h1, e1 m h2, cond_false, Tr.get]
      rw [Tr.get_set d _ _ _ _ hk]
      by_cases he : k = m
      · subst he; simp
      · rw [if_neg (by omega), if_neg (by omega)]
theorem gt_st {ρ : Regs} {t u : Nat} {v : PV} (ht : t < wide) : gt (st ρ t v) u = if t = u then some v else gt ρ u := by
  unfold gt st
  cases hu : Nat.blt u wide with
  | false =>
    have : ¬ u < wide := fun h => by rw [← Nat.blt_eq] at h; rw [h] at hu; cases hu
    simp only [cond_false]
    rw [if_neg (by omega)]
  | true =>
    have hu' : u < wide := Nat.blt_eq ▸ hu
    simp only [cond_true]
    exact Tr.get_set deep ρ t u v (by unfold wide at ht; simp [deep]; omega)
theorem gt_e (u : Nat) : gt .e u = none := by
  unfold gt
  rw [Tr.get_e]
  cases Nat.blt u wide <;> rfl
section
variable {W W' W1 : Wd} {w w' w1 w2 : World} {P : Program} {T : Pg} {C C' : Cx} {ρ ρ' : Regs} {a : Act} {n : Nat} {p : PV} {h h' : H} {tmps : Array Value}
theorem RegsRel.st (hr : RegsRel W w ρ tmps n) {t : Nat} (ht : t < n) {v : Value} (hv : Rel W w p v) : RegsRel W w (st ρ t p) (tmps.setIfInBounds t v) n where
  size := by simp [hr.size]
  wide := hr.wide
  get u q hq := by
    rw [gt_st (Nat.lt_of_lt_of_le ht hr.wide)] at hq
    split at hq
    · rename_i he
      subst he
      injection hq with hq; subst hq
      exact ⟨v, by simp [hr.size, ht], hv⟩
    · rename_i he
      obtain ⟨u', h1, h2⟩ := hr.get u q hq
      exact ⟨u', by simp [he, h1], h2⟩
theorem putD_rel (hr : RegsRel W w ρ a.tmps C.nt) {d : Option Tmp} (hp : putD C ρ d p = some ρ') {v : Value} (hv : Rel W w p v) : RegsRel W w ρ' (a.put d v).tmps C.nt := by
  cases d with
  | none => simp only [putD] at hp; injection hp with hp; subst hp; exact hr
  | some t =>
    simp only [putD] at hp
    split at hp
    · rename_i ht
      injection hp with hp; subst hp
      exact hr.st ht hv
    · cases hp
theorem put_defers (a : Act) (d : Option Tmp) (v : Value) : (a.put d v).defers = a.defers := by cases d <;> rfl
theorem regsOf_get : ∀ (as : List PV) (i : Nat) (ρ : Regs) (u : Nat), i + as.length ≤ wide → gt (regsOf as i ρ) u = if i ≤ u ∧ u < i + as.length then as[u - i]? else gt ρ u
  | [], i, ρ, u, _ => by simp [regsOf]; intro h1 h2; omega
  | x :: as, i, ρ, u, hl => by
    simp only [regsOf]
    simp only [List.length_cons] at hl
    rw [regsOf_get as (i + 1) _ u (by omega), gt_st (by omega)]
    simp only [List.length_cons]
    by_cases h1 : i = u
    · subst h1
      rw [if_neg (by omega), if_pos rfl, if_pos (by omega)]
      simp
    · by_cases h2 : i + 1 ≤ u ∧ u < i + 1 + as.length
      · rw [if_pos h2, if_pos (by omega), show u - i = (u - (i + 1)) + 1 by omega, List.getElem?_cons_succ]
      · rw [if_neg h2, if_neg h1, if_neg (by omega)]
theorem regs_enter {as : List PV} {vs : List Value} (hr : RelL W w as vs) {m : Nat} (hl : as.length ≤ m) (hm : m ≤ wide) : RegsRel W w (regsOf as 0 .e) (vs.toArray ++ Array.replicate (m - vs.length) undef) m where
  size := by have := hr.length; simp; omega
  wide := hm
  get u q hq := by
    rw [regsOf_get as 0 .e u (by omega)] at hq
    split at hq
    · obtain ⟨v, hv, hrel⟩ := hr.get hq
      refine ⟨v, ?_, hrel⟩
      have : u - 0 < vs.length := (List.getElem?_eq_some_iff.1 hv).1
      rw [Array.getElem?_append_left (by simpa using this)]
      simpa using hv
    · rw [gt_e] at hq; cases hq
theorem wanted_rel (hr : RegsRel W w ρ tmps n) {ops : Array Oper} {o : Oper} {t : Bool} (hw : wantedP ops ρ o = some t) : Region.wanted o (yielded ops tmps) = t := by
  unfold wantedP at hw
  unfold Region.wanted
  split at hw
  · rename_i hg
    injection hw with hw
    simp [hg, hw]
  · rename_i j want hg
    split at hw
    · rename_i d hd
      split at hw
      · rename_i bv hgt
        injection hw with hw
        obtain ⟨v, hv, hrel⟩ := hr.get d _ hgt
        simp only [Rel] at hrel
        obtain ⟨rfl, _⟩ := hrel
        simp [hg, yielded, hd, hv, hw]
      · rename_i hgt
        injection hw with hw
        obtain ⟨v, hv, hrel⟩ := hr.get d _ hgt
        simp only [Rel, RelL] at hrel
        obtain ⟨vs, rfl, _⟩ := hrel
        simp [hg, yielded, hd, hv, hw]
      · cases hw
    · cases hw

/-! ### calls -/
theorem Goes.cx (hle : ∀ r, C.no r = true → C'.no r = true) (g : Goes C' h W w h' W' w') : Goes C h W w h' W' w' where
  ext :=
    { size := g.ext.size
      same := fun b hb hA => g.ext.same b hb fun r x hx ha hno => hA r x hx ha (by
        cases hc : C.no r with
        | false => rfl
        | true => rw [hle r hc] at hno; cases hno)
      n := g.ext.n
      up := g.ext.up
      down := g.ext.down
      dead := g.ext.dead
      off := g.ext.off
      new := fun r x hx => (g.ext.new r x hx).imp id fun ⟨r', x', h1, h2, h3⟩ => ⟨r', x', h1, h2, h3.imp id fun ⟨h4, h5⟩ => ⟨h4, by
        cases hc : C.no r' with
        | false => rfl
        | true => rw [hle r' hc] at h5; cases h5⟩⟩
      os := g.ext.os
      tape := g.ext.tape
      output := g.ext.output }
  rel := g.rel
  live := g.live
  kept := fun r hr hno => g.kept r hr (hle r hno)
/-- The call of a value. -/
def callOf (v : Value) (vs : Array Value) : Sem Next := do
  let d ← Deferred.ofValue v vs
  invoke d.target d.args
theorem run_call_fn {f : FuncId} {vf vc vs : Array Value} {fn : Func} (hf : P.funcs[f]? = some fn) (hn : (fn.name == "runtime.NumGoroutine") = false) (hb : fn.body.isNone = false) :
    (callOf (.func (.func f) vf vc) vs).run P w = .ok (.enter f (vf ++ vs ++ vc)) w := by
  simp only [callOf, Deferred.ofValue, invoke, callFunc, Sem.run_bind, Sem.run_pure, Result.andThen_ok, run_program, hf, hn, hb, Bool.false_eq_true, if_false]
theorem exec_call {o : Oper} {f : Operand} {args : Array Operand} {ats : Array TypeId} (ho : o.op = .call { callee := .value f, args, argTypes := ats }) : (execOp a.eval o) = callOf (a.eval f) (args.map a.eval) := by
  simp only [execOp, ho, resolve, callOf]
theorem range_call {f : Operand} {l : Nat} : rangeCall a f l = callOf (a.eval f) #[.func (.yield l) #[] #[]] := by
  simp only [rangeCall, resolve, callOf]
  have : Array.map a.eval #[Operand.const (Value.func (Fn.yield l) #[] #[])] = #[.func (.yield l) #[] #[]] := by simp [Act.eval]
  rw [this]
end
end Go.PI
namespace Go.PI
/-- What is known of a program. -/
structure Env (P : Program) (T : Pg) : Prop where
  ty : TyS P T
  fn : ∀ f fn, T.fn f = some fn → P.funcs[f]? = some fn ∧ (fn.name == "runtime.NumGoroutine") = false
  sum : ∀ f s, T.sum f = some s → (∃ fn, P.funcs[f]? = some fn ∧ (fn.name == "runtime.NumGoroutine") = false ∧ fn.body.isNone = false) ∧
    ∀ as h v, s as h = some v → ∀ W w vs, HRel W w h → RelL W w as vs → ∀ c cs, ∃ w' v', Grew w w' ∧ Rel W w' v v' ∧ Steps P (lone (Frame.enter P f vs.toArray .normal) (c :: cs) w) (lone (c.finish v') cs w')
/-- Where code starts. -/
structure St (C : Cx) (W : Wd) (w : World) (h : H) (ρ : Regs) (b : Frame) (a : Act) : Prop where
  hh : HRel W w h
  hr : RegsRel W w ρ a.tmps C.nt
  fn : b.fn = C.me
  kind : b.kind = .normal
  rd : match C.rd with
    | none => b.roundOf = none
    | some l => l < W.N ∧ ∃ lb, b.roundOf = some lb ∧ (W.dead l ∨ ∃ x, W.β l = some x ∧ x.b = lb)
/-- Where code comes to. -/
def Arr (P : Program) (b : Frame) (K : List Item) (cs : List Frame) (m : Machine) (a' : Act) (w' : World) : X → Prop
  | .norm => Steps P m (lone (put b a' K) cs w')
  | .exit id => ∃ K1, Steps P m (lone (put b a' (.code (.exit id) :: K1)) cs w') ∧ exitTo id K1 = exitTo id K
  | .ret => ∃ K1, Steps P m (lone (put b a' (.code .ret :: K1)) cs w')
structure Fin (P : Program) (C : Cx) (W : Wd) (w : World) (h : H) (b : Frame) (a : Act) (K : List Item) (cs : List Frame) (m : Machine) (o : Out) (W' : Wd) (w' : World) (a' : Act) : Prop where
  go : Goes C h W w o.h W' w'
  regs : RegsRel W' w' o.ρ a'.tmps C.nt
  marks : ∃ ds, a'.defers = ds ++ a.defers ∧ Marks W' w' w.heap.size w'.heap.size ds ∧ (b.roundOf ≠ none → ds = [])
  arr : Arr P b K cs m a' w' o.x
def SimCode (P : Program) (T : Pg) (n : Nat) : Prop :=
  ∀ C c ρ h k, run T n C (.code c ρ) h k = true → ∀ W w b a K cs m, St C W w h ρ b a → (m = lone (put b a (.code c :: K)) cs w ∨ ∃ body, c = .loop body ∧ m = lone (put b a (.inLoop body :: K)) cs w) →
    ∃ o, k o = true ∧ ∃ W' w' a', Fin P C W w h b a K cs m o W' w' a'
def SimOps (P : Program) (T : Pg) (n : Nat) : Prop :=
  ∀ C all l ρ h k, run T n C (.ops all l ρ) h k = true → ∀ W w b a K cs (idx : List Nat), St C W w h ρ b a → l.length = idx.length → (∀ (j : Nat) i, idx[j]? = some i → all[i]? = l[j]?) →
    ∃ o, k o = true ∧ ∃ W' w' a', Fin P C W w h b a (.inRegion all [] :: K) cs (lone (put b a (.inRegion all idx :: K)) cs w) o W' w' a'
def SimCall (P : Program) (T : Pg) (n : Nat) : Prop :=
  ∀ C fv args h k, run T n C (.call fv args) h k = true → ∀ W w v vs, HRel W w h → Rel W w fv v → RelL W w args vs → ∃ nx fr, (callOf v vs.toArray).run P w = .ok nx w ∧ entered P nx = some fr ∧
    ∀ c cs, ∃ o, k o = true ∧ ∃ W' w' v', Goes C h W w o.h W' w' ∧ Rel W' w' o.v v' ∧ Steps P (lone fr (c :: cs) w) (lone (c.finish v') cs w')
/-- A region whose order is drawn. -/
def SimDraw (P : Program) (T : Pg) (n : Nat) : Prop :=
  ∀ C id ops ρ h k, run T n C (.code (.region id ops true) ρ) h k = true → ∀ W w b a K cs, St C W w h ρ b a →
    ∃ o, k o = true ∧ ∃ W' w' a', Fin P C W w h b a K cs (lone (put b a (.code (.region id ops true) :: K)) cs w) o W' w' a'

section
variable {W W' W'' W1 : Wd} {w w' w'' w1 w2 : World} {P : Program} {T : Pg} {C C' : Cx} {ρ ρ' : Regs} {a a' a'' : Act} {n : Nat} {p : PV} {h h' h'' : H} {b : Frame} {K : List Item} {cs : List Frame} {m m' : Machine} {o o' : Out}
theorem Arr.of_steps (hs : Steps P m m') {x : X} (h : Arr P b K cs m' a' w' x) : Arr P b K cs m a' w' x := by
  cases x with
  | norm => exact hs.trans h
  | exit id => obtain ⟨K1, h1, h2⟩ := h; exact ⟨K1, hs.trans h1, h2⟩
  | ret => obtain ⟨K1, h1⟩ := h; exact ⟨K1, hs.trans h1⟩
theorem Fin.of_steps (hs : Steps P m m') (f : Fin P C W w h b a K cs m' o W' w' a') : Fin P C W w h b a K cs m o W' w' a' := ⟨f.go, f.regs, f.marks, f.arr.of_steps hs⟩
theorem St.next (s : St C W w h ρ b a) (g : Goes C h W w h' W' w') (hr : RegsRel W' w' ρ' a'.tmps C.nt) : St C W' w' h' ρ' b a' where
  hh := g.rel
  hr := hr
  fn := s.fn
  kind := s.kind
  rd := by
    have := s.rd
    cases hc : C.rd with
    | none => rw [hc] at this; exact this
    | some l =>
      rw [hc] at this
      obtain ⟨h1, lb, h2, h3⟩ := this
      refine ⟨Nat.lt_of_lt_of_le h1 g.ext.n, lb, h2, ?_⟩
      rcases h3 with h3 | ⟨x, hx, h4⟩
      · exact .inl (g.ext.dead _ h3)
      · exact (g.ext.up l h1 x hx).elim (fun hx => .inr ⟨x, hx, h4⟩) .inl
/-- One behind the other. -/
theorem Fin.trans (s : St C W w h ρ b a) (f1 : Fin P C W w h b a K cs m ⟨.norm, ρ', p, h'⟩ W' w' a') {K' : List Item} (f2 : Fin P C W' w' h' b a' K' cs (lone (put b a' K) cs w') o W'' w'' a'') : Fin P C W w h b a K' cs m o W'' w'' a'' where
  go := f1.go.trans s.hh f2.go
  regs := f2.regs
  marks := by
    obtain ⟨ds, h1, h2, h3⟩ := f1.marks
    obtain ⟨es, h4, h5, h6⟩ := f2.marks
    refine ⟨es ++ ds, by rw [h4, h1, List.append_assoc], ?_, fun hb => by rw [h3 hb, h6 hb]; rfl⟩
    have h7 := h2.mono f2.go.ext (Nat.le_refl _)
    have := h5.append f1.go.ext.size h7
    rwa [Nat.max_eq_left f2.go.ext.size] at this
  arr := f2.arr.of_steps f1.arr
theorem Fin.refl (s : St C W w h ρ b a) (v : PV) : Fin P C W w h b a K cs (lone (put b a K) cs w) ⟨.norm, ρ, v, h⟩ W w a := ⟨.refl s.hh, s.hr, ⟨[], rfl, trivial, fun _ => rfl⟩, .refl _ _⟩
/-- An operation's step. -/
theorem Fin.step {d : Option Tmp} {v : Value} (g : Goes C h W w h' W' w') (hr : RegsRel W' w' ρ' (a.put d v).tmps C.nt) (hs : Steps P m (lone (put b (a.put d v) K) cs w')) : Fin P C W w h b a K cs m ⟨.norm, ρ', p, h'⟩ W' w' (a.put d v) :=
  ⟨g, hr, ⟨[], by rw [put_defers]; rfl, trivial, fun _ => rfl⟩, hs⟩
/-- What an operation, or a call, does: the world goes on, and a value is put. -/
theorem exec_sim (hE : Env P T) (hC : SimCall P T n) {k : PV → H → Bool} {op : Oper} {all : Array Oper} {i : Nat} {rest : List Nat} (s : St C W w h ρ b a)
    (he : exec T (fun C f vs h k => run T n C (.call f vs) h fun o => k o.v o.h) C ρ h op.op k = true) (hi : all[i]? = some op) (hw : Region.wanted op (yielded all a.tmps) = true) :
    ∃ v h', k v h' = true ∧ ∃ u W' w', Rel W' w' v u ∧ Goes C h W w h' W' w' ∧ Steps P (lone (put b a (.inRegion all (i :: rest) :: K)) cs w) (lone (put b (a.put op.dst u) (.inRegion all rest :: K)) cs w') := by
  have hdoes : ∀ v h', Does P C W w h a op v h' → (∀ c, op.op ≠ .defer c) → k v h' = true → ∃ v h', k v h' = true ∧ ∃ u W' w', Rel W' w' v u ∧ Goes C h W w h' W' w' ∧ Steps P (lone (put b a (.inRegion all (i :: rest) :: K)) cs w) (lone (put b (a.put op.dst u) (.inRegion all rest :: K)) cs w') := by
    intro v h' hd hnd hk
    obtain ⟨nx, u, w', W', h1, h2, h3, h4⟩ := hd
    exact ⟨v, h', hk, u, W', w', h3, h4, .one (s_op hi hw hnd h1 h2)⟩
  unfold exec at he
  split at he
  · rename_i f args ats hop
    split at he
    · rename_i fv vs hfv hvs
      have hargs := evl_rel s.hr hvs
      obtain ⟨nx, fr, h1, h2, h3⟩ := hC _ _ _ _ _ he W w _ _ s.hh (ev_rel s.hr hfv) hargs
      obtain ⟨o, hk, W', w', v', g1, g2, g3⟩ := h3 (put b a (.inRegion all (i :: rest) :: K)) cs
      have hx := exec_call (a := a) hop
      have harr : (args.toList.map a.eval).toArray = args.map a.eval := by
        apply Array.ext'; simp
      rw [harr] at h1
      rw [← hx] at h1
      have hstep := s_op_call (b := b) (k := K) (cs := cs) (rest := rest) hi hw (fun c => by rw [hop]; simp) h1 h2
      have hf := put_finish (b := b) (a := a) (ops := all) (k := K) i rest v'
      rw [hi] at hf
      simp only [Option.bind_some] at hf
      rw [hf] at g3
      exact ⟨o.v, o.h, hk, v', W', w', g2, g1, .head hstep g3⟩
    · cases he
  · rename_i x hop
    split at he
    · rename_i l hl
      obtain ⟨e, hel, hd⟩ := w_next (P := P) s.hh s.hr hop hl
      exact hdoes _ _ hd (fun c => by rw [hop]; simp) (List.all_eq_true.1 he e hel)
    · cases he
  · rename_i h1 h2
    split at he
    · rename_i v h' hop
      refine hdoes v h' (op1_sound hE.ty s.hh s.hr hop) (fun c hc => ?_) he
      rw [hc] at hop
      simp [op1, kindOf, opW] at hop
    · cases he
theorem ops_sim (hE : Env P T) (hC : SimCall P T n) (hO : SimOps P T n) : SimOps P T (n + 1) := by
  intro C all l ρ h k hrun W w b a K cs idx s hlen hidx
  cases l with
  | nil =>
    simp only [run] at hrun
    have : idx = [] := List.eq_nil_of_length_eq_zero hlen.symm
    subst this
    exact ⟨_, hrun, W, w, a, .refl s _⟩
  | cons op l =>
    cases idx with
    | nil => simp at hlen
    | cons i idx =>
      have hi : all[i]? = some op := by simpa using hidx 0 i rfl
      have hidx' : ∀ (j : Nat) i, idx[j]? = some i → all[i]? = l[j]? := fun j i' h => by simpa using hidx (j + 1) i' (by simpa using h)
      have hlen' : l.length = idx.length := by simpa using hlen
      simp only [run] at hrun
      split at hrun
      · cases hrun
      · rename_i hw
        have hwt := wanted_rel s.hr hw
        split at hrun
        · rename_i ρ' hp
          have hr' := putD_rel s.hr hp (rel_undef (W := W) (w := w))
          have hstep := s_op_skip (P := P) (b := b) (a := a) (k := K) (cs := cs) (w := w) (ops := all) (i := i) (rest := idx) (by rw [hi]; simp [hwt])
          rw [hi] at hstep
          simp only [Option.bind_some] at hstep
          have f1 : Fin P C W w h b a (.inRegion all idx :: K) cs (lone (put b a (.inRegion all (i :: idx) :: K)) cs w) ⟨.norm, ρ', .tup [], h⟩ W w (a.put op.dst undef) := Fin.step (.refl s.hh) hr' (.one hstep)
          obtain ⟨o, hk, W', w', a', f2⟩ := hO C all l ρ' h k hrun W w b (a.put op.dst undef) K cs idx (s.next (.refl s.hh) hr') hlen' hidx'
          exact ⟨o, hk, W', w', a', f1.trans s f2⟩
        · cases hrun
      · rename_i hw
        have hwt := wanted_rel s.hr hw
        obtain ⟨v, h', hk, u, W', w', hru, hgo, hst⟩ := exec_sim (cs := cs) (K := K) (rest := idx) hE hC s hrun hi hwt
        split at hk
        · rename_i ρ' hp
          have hr' := putD_rel (a := a) (s.hr.mono hgo.ext) hp hru
          have f1 : Fin P C W w h b a (.inRegion all idx :: K) cs (lone (put b a (.inRegion all (i :: idx) :: K)) cs w) ⟨.norm, ρ', v, h'⟩ W' w' (a.put op.dst u) := Fin.step hgo hr' hst
          obtain ⟨o, hk', W'', w'', a'', f2⟩ := hO C all l ρ' h' k hk W' w' b (a.put op.dst u) K cs idx (s.next hgo hr') hlen' hidx'
          exact ⟨o, hk', W'', w'', a'', f1.trans s f2⟩
        · cases hk
end
end Go.PI
namespace Go.PI
section
variable {W W' W'' W1 : Wd} {w w' w'' w1 w2 : World} {P : Program} {T : Pg} {C C' : Cx} {ρ ρ' : Regs} {a a' a'' : Act} {n : Nat} {p : PV} {h h' h'' : H} {b : Frame} {K : List Item} {cs : List Frame} {m m' : Machine} {o o' : Out}
/-- A function's body, from its entry to its return. -/
theorem body_sim (hE : Env P T) (hC : SimCode P T n) {f : FuncId} {fn : Func} {body : Code} (hf : P.funcs[f]? = some fn) (hb : fn.body = some body) {as : List PV} {vs : List Value} (hh : HRel W w h) (has : RelL W w as vs)
    (hl : as.length ≤ fn.ntmps) (hwd : fn.ntmps ≤ wide) (hme : C.me = f) (hnt : C.nt = fn.ntmps) (hrd : C.rd = none) {k : Out → Bool} (hrun : run T n C (.code body (regsOf as 0 .e)) h k = true)
    (hk : ∀ o, k o = true → (∀ i, o.x ≠ .exit i) ∧ ∃ v, PI.results T o.ρ o.h fn.results.toList = some v) (c : Frame) (cs : List Frame) :
    ∃ o, k o = true ∧ ∃ W' w' v v', Goes C h W w o.h W' w' ∧ PI.results T o.ρ o.h fn.results.toList = some v ∧ Rel W' w' v v' ∧ Steps P (lone (Frame.enter P f vs.toArray .normal) (c :: cs) w) (lone (c.finish v') cs w') := by
  let b0 : Frame := { (default : Frame) with fn := f, kind := .normal }
  let a0 : Act := { tmps := vs.toArray ++ Array.replicate (fn.ntmps - vs.length) undef, defers := [] }
  have henter : Frame.enter P f vs.toArray .normal = put b0 a0 [.code body] := by
    simp [Frame.enter, put, hf, hb, b0, a0]
    rfl
  have hst : St C W w h (regsOf as 0 .e) b0 a0 := ⟨hh, by rw [hnt]; exact regs_enter has hl hwd, hme.symm, rfl, by rw [hrd]; rfl⟩
  obtain ⟨o, hko, W', w', a', hfin⟩ := hC C body _ h k hrun W w b0 a0 [] (c :: cs) _ hst (.inl rfl)
  obtain ⟨hx, v, hv⟩ := hk o hko
  obtain ⟨ds, hd1, hd2, _⟩ := hfin.marks
  -- it stands before its return
  obtain ⟨fr, hfr, hfm, hfk, hfd, hff, hft⟩ : ∃ fr : Frame, Steps P (lone (Frame.enter P f vs.toArray .normal) (c :: cs) w) (lone fr (c :: cs) w') ∧ fr.mode = .returning ∧ fr.kind = .normal ∧ fr.defers = ds ∧ fr.fn = f ∧ fr.tmps = a'.tmps := by
    have harr := hfin.arr
    rw [henter]
    have hd3 : a'.defers = ds := by rw [hd1]; simp [a0]
    cases hox : o.x with
    | norm =>
      rw [hox] at harr
      exact ⟨{ put b0 a' [] with mode := .returning }, harr.trans (.one (s_end rfl)), rfl, rfl, hd3, rfl, rfl⟩
    | exit i => exact absurd hox (hx i)
    | ret =>
      rw [hox] at harr
      obtain ⟨K1, h1⟩ := harr
      exact ⟨{ put b0 a' (.code .ret :: K1) with mode := .returning }, h1.trans (.one (s_ret rfl)), rfl, rfl, hd3, rfl, rfl⟩
  obtain ⟨w2, hs2, ht⟩ := take_all (P := P) (cs := c :: cs) (fr := fr) hd2 hfm hfd
  have hg := hfin.go.took ht
  obtain ⟨v', hv1, hv2⟩ := results_rel hE.ty hg.rel (hfin.regs.mon ht.mon) hv
  refine ⟨o, hko, W', w2, v, v', hg, hv, hv2, hfr.trans (hs2.trans (.one (step_leave_returned ?_)))⟩
  refine ⟨hfm, rfl, hfk, fn, ?_, ?_⟩
  · show P.funcs[fr.fn]? = some fn
    rw [hff]; exact hf
  · show (Go.results fn fr.tmps).run P w2 = .ok v' w2
    rw [hft]; exact hv1
theorem params_rel : ∀ (ts : List Tmp) (as : List PV) (ρ : Regs) (tmps : Array Value) (vs : List Value), RegsRel W w ρ tmps C.nt → RelL W w as vs → params ρ C ts as = some ρ' →
    ts.length = vs.length ∧ RegsRel W w ρ' ((ts.zip vs).foldl (fun tmps (t, a) => tmps.setIfInBounds t a) tmps) C.nt
  | [], [], ρ, tmps, vs, hr, ha, hp => by
    simp only [params] at hp
    injection hp with hp; subst hp
    simp only [RelL] at ha; subst ha
    exact ⟨rfl, hr⟩
  | [], _ :: _, _, _, _, _, _, hp => by simp only [params] at hp; cases hp
  | _ :: _, [], _, _, _, _, _, hp => by simp only [params] at hp; cases hp
  | t :: ts, q :: as, ρ, tmps, vs, hr, ha, hp => by
    simp only [RelL] at ha
    obtain ⟨v, vs, rfl, h1, h2⟩ := ha
    simp only [params] at hp
    split at hp
    · rename_i ht
      obtain ⟨h3, h4⟩ := params_rel ts as _ _ vs (hr.st ht h1) h2 hp
      exact ⟨by simp [h3], by simpa using h4⟩
    · cases hp
/-- A loop's row, and its block. -/
theorem loop_at (hh : HRel W w h) {r : Nat} {bl : Nat} {lr : LoopR} (hr : h.rows[r]? = some (.loop lr)) (hb : W.dead r ∨ ∃ x, W.β r = some x ∧ x.b = bl) :
    ∃ x, W.β r = some x ∧ x.b = bl ∧ PORel W w (.loop lr) x := by
  rcases hb with hd | ⟨x, hx, rfl⟩
  · rw [(hh.dead r hd).1] at hr; cases hr
  · obtain ⟨z, hz, hp⟩ := hh.rows r _ hr (by simp)
    rw [hx] at hz; injection hz with hz; subst hz
    exact ⟨x, hx, rfl, hp⟩
theorem Ext.keeps (e : Ext C h W w W' w') {r : Nat} {x : Loc} (hr : r < W.N) (hx : W.β r = some x) : W'.dead r ∨ ∃ y, W'.β r = some y ∧ y.b = x.b :=
  (e.up r hr x hx).elim (fun h => .inr ⟨x, h, rfl⟩) .inl
theorem loop_set (hh : HRel W w h) {r : Nat} {x : Loc} {lr lr' : LoopR} {L L' : Loop} (hr : h.rows[r]? = some (.loop lr)) (hx : W.β r = some x) (hno : C.no r = false)
    (h2 : L'.state = (match lr'.state with | 0 => .ready | 1 => .busy | 2 => .done | _ => .exhausted)) (h3 : L'.pending = lr'.pend) (h4 : L'.fn = lr'.fn) (h5 : L'.params.toList = lr'.params) (h6 : L'.assign = lr'.assign) (h7 : L'.body = lr'.body)
    (h8 : RegsRel W w lr'.regs L'.tmps lr'.nt) (hL : w.heap[x.b]? = some (.loop L)) : Goes C h W w (setRow h r (.loop lr')) W { w with heap := w.heap.setIfInBounds x.b (.loop L') } := by
  have hal : alive h r := ⟨_, hr, by simp⟩
  have hwr := setObj_wrote w x.b (.loop L')
  exact Goes.set hh hx hal hwr hno ⟨L', setObj_heap hL _, h2, h3, h4, h5, h6, h7, h8.mono (hwr.ext (C := C) hx hal hno)⟩
/-- A round of a loop's. -/
theorem round_sim (hC : SimCode P T n) {l : Nat} {args : List PV} {k : Out → Bool} (hrun : run T (n + 1) C (.call (.yld l) args) h k = true) {v : Value} {vs : List Value} (hh : HRel W w h) (hv : Rel W w (.yld l) v) (has : RelL W w args vs) :
    ∃ nx fr, (callOf v vs.toArray).run P w = .ok nx w ∧ entered P nx = some fr ∧
    ∀ c cs, ∃ o, k o = true ∧ ∃ W' w' v', Goes C h W w o.h W' w' ∧ Rel W' w' o.v v' ∧ Steps P (lone fr (c :: cs) w) (lone (c.finish v') cs w') := by
  simp only [run] at hrun
  split at hrun
  · cases hrun
  rename_i hno
  have hno' : C.no l = false := by simpa using hno
  split at hrun
  · rename_i lr hl
    split at hrun
    · rename_i hst
      split at hrun
      · rename_i ρ0 hp
        simp only [Rel] at hv
        obtain ⟨hN, bl, rfl, hor⟩ := hv
        obtain ⟨x, hx, rfl, L, hL, g1, g2, g3, g4, g5, g6, g7⟩ := loop_at hh hl hor
        obtain ⟨hpl, hpr⟩ := params_rel (C := { C with me := lr.fn, nt := lr.nt, rd := some l }) lr.params args lr.regs L.tmps vs g7 has hp
        let tmps' : Array Value := (lr.params.zip vs).foldl (fun tmps (t, a) => tmps.setIfInBounds t a) L.tmps
        let b0 : Frame := { (default : Frame) with fn := L.fn, kind := .normal, roundOf := some x.b }
        let a0 : Act := { tmps := tmps', defers := [] }
        have hcall : (callOf (.func (.yield x.b) #[] #[]) vs.toArray).run P w = .ok (.round x.b L.fn tmps' L.assign L.body) w := by
          have hz : (L.params.zip vs.toArray).foldl (fun tmps (x : Tmp × Value) => tmps.setIfInBounds x.1 x.2) L.tmps = tmps' := by
            rw [← Array.foldl_toList, Array.toList_zip, g4]
          have hsz : vs.length = L.params.size := by
            have : L.params.size = lr.params.length := by rw [← g4, Array.length_toList]
            rw [this, hpl]
          simp [callOf, Deferred.ofValue, invoke, Instr.yield, Instr.getLoop, getObj, Sem.run_bind, Sem.run, Result.andThen, hL]
          rw [if_pos hsz]
          have hmin : min L.params.size vs.length = (L.params.zip vs.toArray).size := by simp
          rw [hmin]
          exact congrArg (fun t => Result.ok (Next.round x.b L.fn t L.assign L.body) w) hz
        refine ⟨_, _, hcall, rfl, fun c cs => ?_⟩
        have henter : Frame.round x.b L.fn tmps' L.assign L.body .normal = put b0 a0 [.code L.assign, .beginRound, .code L.body] := rfl
        rw [henter]
        let C1 : Cx := { C with me := lr.fn, nt := lr.nt, rd := some l }
        have hcx : ∀ r, C.no r = true → C1.no r = true := fun r h => h
        have hs0 : St C1 W w h ρ0 b0 a0 := ⟨hh, hpr, g3, rfl, ⟨hN, x.b, rfl, hor⟩⟩
        -- the assignment
        rw [← g5] at hrun
        obtain ⟨o1, hk1, W1, w1, a1, f1⟩ := hC C1 L.assign ρ0 h _ hrun W w b0 a0 [.beginRound, .code L.body] (c :: cs) _ hs0 (.inl rfl)
        split at hk1
        · rename_i hx1
          split at hk1
          · rename_i lr1 hl1
            split at hk1
            · rename_i hst1
              have harr1 := f1.arr
              rw [hx1] at harr1
              obtain ⟨y1, hy1, hyb1, L1, hL1, p1, p2, p3, p4, p5, p6, p7⟩ := loop_at f1.go.rel hl1 (f1.go.ext.keeps hN hx)
              rw [hst1] at p1
              rw [hyb1] at hL1
              have hbeg := s_begin (P := P) (b := b0) (a := a1) (k := [.code L.body]) (cs := c :: cs) (l := x.b) rfl hL1 p1
              have hset := loop_set (C := C1) (lr' := { lr1 with state := 1 }) (L' := { L1 with state := .busy }) f1.go.rel hl1 hy1 hno' rfl p2 p3 p4 p5 p6 p7 (by rw [hyb1]; exact hL1)
              rw [hyb1] at hset
              have hg1 : Goes C1 h W w _ W1 _ := f1.go.trans hh hset
              have hs1 : St C1 W1 _ _ o1.ρ b0 a1 := hs0.next hg1 (f1.regs.mono hset.ext)
              rw [← g6] at hk1
              -- the body
              obtain ⟨o3, hk3, W3, w3, a3, f3⟩ := hC C1 L.body o1.ρ _ _ hk1 W1 _ b0 a1 [] (c :: cs) _ hs1 (.inl rfl)
              have hg3 := hg1.trans hh f3.go
              split at hk3
              · rename_i lr3 hl3
                obtain ⟨y3, hy3, hyb3, L3, hL3, q1, q2, q3, q4, q5, q6, q7⟩ := loop_at hg3.rel hl3 (hg3.ext.keeps hN hx)
                rw [hyb3] at hL3
                have harr3 := f3.arr
                have hpre : Steps P (lone (put b0 a0 [.code L.assign, .beginRound, .code L.body]) (c :: cs) w) (lone (put b0 a1 [.code L.body]) (c :: cs) _) := Steps.trans harr1 (.one hbeg)
                split at hk3
                · rename_i hx3
                  rw [hx3] at harr3
                  have hset3 := loop_set (C := C1) (lr' := { lr3 with state := 0, pend := none }) (L' := { L3 with state := .ready, pending := none }) hg3.rel hl3 hy3 hno' rfl rfl q3 q4 q5 q6 q7 (by rw [hyb3]; exact hL3)
                  rw [hyb3] at hset3
                  exact ⟨_, hk3, W3, _, .bool true, (hg3.trans hh hset3).cx hcx, by simp [Rel, Value.oneCell'], hpre.trans (Steps.trans harr3 (.one (s_leave_end rfl rfl hL3)))⟩
                · rename_i hx3
                  rw [hx3] at harr3
                  obtain ⟨K1, harr3⟩ := harr3
                  have hset3 := loop_set (C := C1) (lr' := { lr3 with state := 2, pend := some .ret }) (L' := { L3 with state := .done, pending := some .ret }) hg3.rel hl3 hy3 hno' rfl rfl q3 q4 q5 q6 q7 (by rw [hyb3]; exact hL3)
                  rw [hyb3] at hset3
                  exact ⟨_, hk3, W3, _, .bool false, (hg3.trans hh hset3).cx hcx, by simp [Rel, Value.oneCell'], hpre.trans (Steps.trans harr3 (.one (s_leave_ret rfl rfl hL3)))⟩
                · rename_i i hx3
                  rw [hx3] at harr3
                  obtain ⟨K1, harr3, hK1⟩ := harr3
                  have hset3 := loop_set (C := C1) (lr' := { lr3 with state := 2, pend := some (.exit i) }) (L' := { L3 with state := .done, pending := some (.exit i) }) hg3.rel hl3 hy3 hno' rfl rfl q3 q4 q5 q6 q7 (by rw [hyb3]; exact hL3)
                  rw [hyb3] at hset3
                  exact ⟨_, hk3, W3, _, .bool false, (hg3.trans hh hset3).cx hcx, by simp [Rel, Value.oneCell'], hpre.trans (Steps.trans harr3 (.one (s_leave_exit rfl rfl hL3 (by rw [hK1]; rfl))))⟩
              · cases hk3
            · cases hk1
          · cases hk1
        · cases hk1
      · cases hrun
    · cases hrun
  · cases hrun
end
end Go.PI
namespace Go.PI
section
variable {W W' W'' W1 : Wd} {w w' w'' w1 w2 : World} {P : Program} {T : Pg} {C C' : Cx} {ρ ρ' : Regs} {a a' a'' : Act} {n : Nat} {p : PV} {h h' h'' : H} {b : Frame} {K : List Item} {cs : List Frame} {m m' : Machine} {o o' : Out}
theorem RelL.append : ∀ {ps qs : List PV} {us vs : List Value}, RelL W w ps us → RelL W w qs vs → RelL W w (ps ++ qs) (us ++ vs)
  | [], qs, us, vs, h1, h2 => by simp only [RelL] at h1; subst h1; exact h2
  | p :: ps, qs, us, vs, h1, h2 => by
    simp only [RelL] at h1
    obtain ⟨v, us, rfl, h3, h4⟩ := h1
    show RelL W w (p :: (ps ++ qs)) (v :: (us ++ vs))
    simp only [RelL]
    exact ⟨v, _, rfl, h3, h4.append h2⟩
theorem call_sim (hE : Env P T) (hC : SimCode P T n) : SimCall P T (n + 1) := by
  intro C fv args h k hrun W w v vs hh hv has
  cases fv
  case yld l => exact round_sim hC hrun hh hv has
  case fn f first caps =>
    simp only [run] at hrun
    simp only [Rel] at hv
    obtain ⟨vf, vc, rfl, hvf, hvc⟩ := hv
    have hall := (hvf.append has).append hvc
    have harr : vf ++ vs.toArray ++ vc = (vf.toList ++ vs ++ vc.toList).toArray := by
      apply Array.ext'; simp
    split at hrun
    · rename_i v' hsum
      obtain ⟨s, hsum, hs⟩ := Option.bind_eq_some_iff.1 hsum
      obtain ⟨⟨fn, hf, hn, hb⟩, hS⟩ := hE.sum f s hsum
      refine ⟨_, _, run_call_fn hf hn hb, rfl, fun c cs => ?_⟩
      rw [harr]
      obtain ⟨w', u, h1, h2, h3⟩ := hS _ _ _ hs W w _ hh hall c cs
      exact ⟨_, hrun, W, w', u, .grew hh h1, h2, h3⟩
    · split at hrun
      · rename_i fn hfn
        obtain ⟨hf, hn⟩ := hE.fn f fn hfn
        split at hrun
        · rename_i body hb
          refine ⟨_, _, run_call_fn hf hn (by simp [hb]), rfl, fun c cs => ?_⟩
          rw [harr]
          cases hbd : (Nat.ble (first ++ args ++ caps).length fn.ntmps && Nat.ble fn.ntmps wide) <;> rw [hbd] at hrun <;> simp only [cond_true, cond_false] at hrun
          · cases hrun
          obtain ⟨hb1, hb2⟩ := Bool.and_eq_true_iff.1 hbd
          have hb1' := Nat.le_of_ble_eq_true hb1
          have hb2' := Nat.le_of_ble_eq_true hb2
          cases hpu : T.pure C.me f <;> rw [hpu] at hrun <;> simp only [cond_true, cond_false] at hrun
          · obtain ⟨o, hk, W', w', v, v', g1, g2, g3, g4⟩ := body_sim hE hC (C := { C with me := f, nt := fn.ntmps, rd := none }) hf hb hh hall hb1' hb2' rfl rfl rfl hrun (fun o ho => by
              split at ho
              · cases ho
              · rename_i hne
                refine ⟨fun i hi => hne i hi, ?_⟩
                split at ho
                · rename_i v hv; exact ⟨v, hv⟩
                · cases ho) c cs
            split at hk
            · cases hk
            · rw [g2] at hk
              exact ⟨_, hk, W', w', v', Goes.cx (C := C) (fun r hr => by exact hr) g1, g3, g4⟩
          · obtain ⟨o, hk, W', w', v, v', g1, g2, g3, g4⟩ := body_sim hE hC (C := { C with me := f, nt := fn.ntmps, lo := h.rows.length, rd := none }) hf hb hh hall hb1' hb2' rfl rfl rfl hrun (fun o ho => by
              split at ho
              · cases ho
              · rename_i hne
                refine ⟨fun i hi => hne i hi, ?_⟩
                split at ho
                · rename_i v hv; exact ⟨v, hv⟩
                · cases ho) c cs
            split at hk
            · cases hk
            · rw [g2] at hk
              simp only at hk
              split at hk
              · rename_i v'' hfr
                obtain ⟨h1, h2⟩ := g1.pure hh rfl
                rw [hh.n] at hfr
                have := freeze_rel g1.rel h2 _ true _ _ _ hfr g3
                exact ⟨_, hk, W, w', v', .grew hh h1, this, g4⟩
              · cases hk
        · cases hrun
      · cases hrun
  all_goals (simp only [run] at hrun; cases hrun)
theorem Arr.seq {x : X} {y : Code} (hx : x ≠ .norm) (h : Arr P b (.code y :: K) cs m a' w' x) : Arr P b K cs m a' w' x := by
  cases x with
  | norm => exact absurd rfl hx
  | exit id => obtain ⟨K1, h1, h2⟩ := h; exact ⟨K1, h1, h2⟩
  | ret => exact h
theorem Arr.loop {x : X} {y : Code} (hx : x ≠ .norm) (h : Arr P b (.inLoop y :: K) cs m a' w' x) : Arr P b K cs m a' w' x := by
  cases x with
  | norm => exact absurd rfl hx
  | exit id => obtain ⟨K1, h1, h2⟩ := h; exact ⟨K1, h1, h2⟩
  | ret => exact h
theorem Arr.scope {x : X} {y : Code} (h : Arr P b (.inScope y :: K) cs m a' w' x) : Arr P b K cs m a' w' x := by
  cases x with
  | norm => exact Steps.trans h (.one s_inScope)
  | exit id => obtain ⟨K1, h1, h2⟩ := h; exact ⟨K1, h1, h2⟩
  | ret => exact h
theorem Arr.region {x : X} {ops : Array Oper} (h : Arr P b (.inRegion ops [] :: K) cs m a' w' x) : Arr P b K cs m a' w' x := by
  cases x with
  | norm => exact Steps.trans h (.one s_region_end)
  | exit id => obtain ⟨K1, h1, h2⟩ := h; exact ⟨K1, h1, h2⟩
  | ret => exact h
/-- A range over a function, from the loop's entry on. -/
theorem range_sim (hK : SimCall P T n) {f : Operand} {ps : Array Tmp} {x y : Code} {k : Out → Bool} (hrun : run T (n + 1) C (.code (.rangeFunc f ps x y) ρ) h k = true) (s : St C W w h ρ b a) :
    ∃ o, k o = true ∧ ∃ W' w' a', Fin P C W w h b a K cs (lone (put b a (.code (.rangeFunc f ps x y) :: K)) cs w) o W' w' a' := by
  simp only [run] at hrun
  split at hrun
  · cases hrun
  rename_i fv hfv
  split at hrun
  · cases hrun
  rename_i hc
  have hno : C.no h.rows.length = false := by
    cases hx : C.no h.rows.length with
    | false => rfl
    | true => exact absurd (.inr hx) hc
  have hrd : inRound C h = true := by
    cases hx : inRound C h with
    | true => rfl
    | false => exact absurd (.inl hx) hc
  -- the loop's entry
  obtain ⟨lb, mark, w1, he, hg, hlb, hpu, hmk, hrm⟩ : ∃ lb mark w1, (Instr.enterLoop b.fn a.tmps ps x y b.roundOf).run P w = .ok (lb, mark) w1 ∧ Grew w w1 ∧ w.heap.size ≤ lb ∧
      (∃ d, w1.heap[lb]? = some (.loop { state := .ready, pending := none, fn := b.fn, tmps := a.tmps, params := ps, assign := x, body := y, defers := d })) ∧
      Marks (W.push ⟨lb, 0, 0, 0⟩) w1 w.heap.size w1.heap.size mark ∧ (b.roundOf ≠ none → mark = []) := by
    have h1 := s.rd
    cases hcr : C.rd with
    | none =>
      rw [hcr] at h1
      simp only at h1
      rw [h1, enterLoop_none]
      refine ⟨_, _, _, rfl, (Grew.push w _).trans (Grew.push _ _), Nat.le_succ _, ⟨w.heap.size, by rw [Array.getElem?_push, if_pos (by simp)]⟩, ⟨w.heap.size, rfl, Nat.le_refl _, by simp; omega, ⟨by simp; omega, fun r z hz => ?_, fun h => Nat.lt_irrefl _ (s.hh.offlt _ h)⟩, by simp [Array.getElem?_push], trivial⟩, fun hb => absurd rfl hb⟩
      simp only [Wd.push] at hz
      split at hz
      · injection hz with hz; subst hz; simp
      · have := (s.hh.lt r z hz).2; omega
    | some l =>
      rw [hcr] at h1
      obtain ⟨h2, lb, h3, h4⟩ := h1
      unfold inRound at hrd
      rw [hcr] at hrd
      simp only at hrd
      split at hrd
      · rename_i lr hl
        obtain ⟨z, hz, rfl, L, hL, _⟩ := loop_at s.hh hl h4
        rw [h3, enterLoop_some _ _ _ _ _ hL]
        exact ⟨_, _, _, rfl, Grew.push w _, Nat.le_refl _, ⟨L.defers, by simp⟩, trivial, fun _ => rfl⟩
      · cases hrd
  obtain ⟨d, hloop⟩ := hpu
  have hlb1 : lb < w1.heap.size := (Array.getElem?_eq_some_iff.1 hloop).1
  have hext0 : Ext C h W w (W.push ⟨lb, 0, 0, 0⟩) w1 := Wd.push_ext hg hlb
  have hpo : PORel (W.push ⟨lb, 0, 0, 0⟩) w1 (.loop { state := 0, pend := none, fn := C.me, nt := C.nt, regs := ρ, params := ps.toList, assign := x, body := y }) ⟨lb, 0, 0, 0⟩ :=
    ⟨_, hloop, rfl, rfl, s.fn, rfl, rfl, rfl, s.hr.mono hext0⟩
  have hgo0 := Goes.push (C := C) s.hh hg (x := ⟨lb, 0, 0, 0⟩) hlb hlb1 hpo
  have hyr : Rel (W.push ⟨lb, 0, 0, 0⟩) w1 (.yld h.rows.length) (.func (.yield lb) #[] #[]) := by
    simp only [Rel, Wd.push, s.hh.n]
    exact ⟨Nat.lt_succ_self _, lb, rfl, .inr ⟨_, if_pos trivial, rfl⟩⟩
  obtain ⟨nx, fr, h1, h2, h3⟩ := hK _ _ _ _ _ hrun (W.push ⟨lb, 0, 0, 0⟩) w1 _ [.func (.yield lb) #[] #[]] hgo0.rel ((ev_rel s.hr hfv).mono hext0) (by simp only [RelL]; exact ⟨_, _, rfl, hyr, rfl⟩)
  have hstep := s_range (P := P) (b := b) (a := a) (k := K) (cs := cs) he (by rw [range_call]; exact h1) h2
  let a2 : Act := { a with defers := mark ++ a.defers }
  obtain ⟨o, hk, W', w', v', g1, g2, g3⟩ := h3 (put b a2 (.inRangeFunc lb :: K)) cs
  rw [put_finish_range] at g3
  have hgo1 := hgo0.trans s.hh g1
  have hlN : h.rows.length < W'.N := by
    have := g1.ext.n
    simp only [Wd.push] at this
    rw [s.hh.n]; omega
  split at hk
  · rename_i lr hl
    split at hk
    · cases hk
    rename_i hst
    have hkeep : W'.dead h.rows.length ∨ ∃ z, W'.β h.rows.length = some z ∧ z.b = lb :=
      g1.ext.keeps (r := h.rows.length) (x := ⟨lb, 0, 0, 0⟩) (by simp only [Wd.push, s.hh.n]; omega) (by simp only [Wd.push, s.hh.n]; exact if_pos trivial)
    obtain ⟨z, hz, hzb, L, hL, p1, p2, p3, p4, p5, p6, p7⟩ := loop_at hgo1.rel hl hkeep
    have hset := loop_set (C := C) (lr' := { lr with state := 3 }) (L' := { L with state := .exhausted }) hgo1.rel hl hz hno rfl p2 p3 p4 p5 p6 p7 hL
    have hal : alive (setRow o.h h.rows.length (.loop { lr with state := 3 })) h.rows.length := ⟨_, by
      have : h.rows.length < o.h.rows.length := by rw [hgo1.rel.n]; exact hlN
      simp only [PI.setRow]; rw [List.getElem?_set_self this], by simp⟩
    have hkill := Goes.kill (C := C) hset.rel hlN hal hno
    have hrow : setRow (setRow o.h h.rows.length (.loop { lr with state := 3 })) h.rows.length .dead = setRow o.h h.rows.length .dead := by
      simp only [PI.setRow, List.set_set]
    rw [hrow] at hkill
    rw [hzb] at hL
    have hstL : L.state ≠ .busy := by
      rw [p1]
      intro hbusy
      split at hbusy <;> (try (cases hbusy; done))
      rename_i h1; exact hst h1
    have hend := s_endLoop (P := P) (b := b) (a := a2) (k := K) (cs := cs) hL hstL
    have hgo2 := (hgo1.trans s.hh hset).trans s.hh hkill
    have hsteps : Steps P (lone (put b a (.code (.rangeFunc f ps x y) :: K)) cs w) _ := Steps.head hstep (g3.trans (.one hend))
    have hregs : RegsRel (W'.kill h.rows.length) { w' with heap := w'.heap.setIfInBounds z.b (.loop { L with state := .exhausted }) } ρ a2.tmps C.nt := s.hr.mono hgo2.ext
    have hmarks : ∃ ds, a2.defers = ds ++ a.defers ∧ Marks (W'.kill h.rows.length) { w' with heap := w'.heap.setIfInBounds z.b (.loop { L with state := .exhausted }) } w.heap.size (w'.heap.setIfInBounds z.b (.loop { L with state := .exhausted })).size ds ∧ (b.roundOf ≠ none → ds = []) := by
      refine ⟨mark, rfl, ?_, hrm⟩
      have e1 := hmk.mono g1.ext g1.ext.size
      have e2 := e1.mono hset.ext hset.ext.size
      exact e2.mono hkill.ext (Nat.le_refl _)
    rw [← hzb] at hsteps
    split at hk
    · rename_i hp
      rw [hp] at p2
      have hs : (L.pending.map Item.code).toList ++ K = K := by rw [p2]; rfl
      rw [hs] at hsteps
      exact ⟨_, hk, _, _, a2, hgo2, hregs, hmarks, hsteps⟩
    · rename_i hp
      rw [hp] at p2
      have hs : (L.pending.map Item.code).toList ++ K = .code .ret :: K := by rw [p2]; rfl
      rw [hs] at hsteps
      exact ⟨_, hk, _, _, a2, hgo2, hregs, hmarks, K, hsteps⟩
    · rename_i i hp
      rw [hp] at p2
      have hs : (L.pending.map Item.code).toList ++ K = .code (.exit i) :: K := by rw [p2]; rfl
      rw [hs] at hsteps
      exact ⟨_, hk, _, _, a2, hgo2, hregs, hmarks, K, hsteps, rfl⟩
    · cases hk
  · cases hk
theorem code_sim (hC : SimCode P T n) (hO : SimOps P T n) (hK : SimCall P T n) (hD : SimDraw P T (n + 1)) : SimCode P T (n + 1) := by
  intro C c ρ h k hrun W w b a K cs m s hm
  cases c with
  | skip =>
    rcases hm with rfl | ⟨_, hb, _⟩
    · simp only [run] at hrun
      exact ⟨_, hrun, W, w, a, (Fin.refl s _).of_steps (.one s_skip)⟩
    · cases hb
  | label l =>
    rcases hm with rfl | ⟨_, hb, _⟩
    · simp only [run] at hrun
      exact ⟨_, hrun, W, w, a, (Fin.refl s _).of_steps (.one s_label)⟩
    · cases hb
  | ret =>
    rcases hm with rfl | ⟨_, hb, _⟩
    · simp only [run] at hrun
      exact ⟨_, hrun, W, w, a, .refl s.hh, s.hr, ⟨[], rfl, trivial, fun _ => rfl⟩, K, .refl _ _⟩
    · cases hb
  | exit id =>
    rcases hm with rfl | ⟨_, hb, _⟩
    · simp only [run] at hrun
      exact ⟨_, hrun, W, w, a, .refl s.hh, s.hr, ⟨[], rfl, trivial, fun _ => rfl⟩, K, .refl _ _, rfl⟩
    · cases hb
  | seq x y =>
    rcases hm with rfl | ⟨_, hb, _⟩
    · simp only [run] at hrun
      obtain ⟨o, hk, W', w', a', f⟩ := hC C x ρ h _ hrun W w b a (.code y :: K) cs _ s (.inl rfl)
      have f' := f.of_steps (.one s_seq)
      split at hk
      · rename_i hx
        obtain ⟨ox, oρ, ov, oh⟩ := o
        subst hx
        obtain ⟨o2, hk2, W2, w2, a2, f2⟩ := hC C y oρ oh k hk W' w' b a' K cs _ (s.next f.go f.regs) (.inl rfl)
        exact ⟨o2, hk2, W2, w2, a2, f'.trans s f2⟩
      · rename_i hx
        exact ⟨o, hk, W', w', a', f'.go, f'.regs, f'.marks, f'.arr.seq hx⟩
    · cases hb
  | cond c x y =>
    rcases hm with rfl | ⟨_, hb, _⟩
    · simp only [run] at hrun
      have hcv : ∀ t, (ev ρ c).bind boolOf = some t → a.eval c = .bool t := fun t ht => by
        obtain ⟨q, hq, ht⟩ := Option.bind_eq_some_iff.1 ht
        have h1 := ev_rel s.hr hq
        unfold boolOf at ht
        split at ht
        · injection ht with ht; subst ht
          simp only [Rel] at h1; exact h1.1
        · cases ht
      split at hrun
      · rename_i ht
        obtain ⟨o, hk, W', w', a', f⟩ := hC C x ρ h _ hrun W w b a K cs _ s (.inl rfl)
        exact ⟨o, hk, W', w', a', f.of_steps (.one (s_cond (hcv true ht)))⟩
      · rename_i ht
        obtain ⟨o, hk, W', w', a', f⟩ := hC C y ρ h _ hrun W w b a K cs _ s (.inl rfl)
        exact ⟨o, hk, W', w', a', f.of_steps (.one (s_cond (hcv false ht)))⟩
      · cases hrun
    · cases hb
  | block id x =>
    rcases hm with rfl | ⟨_, hb, _⟩
    · simp only [run] at hrun
      obtain ⟨o, hk, W', w', a', f⟩ := hC C x ρ h _ hrun W w b a (.inBlock id :: K) cs _ s (.inl rfl)
      have f' := f.of_steps (.one s_block)
      have harr := f'.arr
      split at hk
      · rename_i i hx
        rw [hx] at harr
        obtain ⟨K1, h1, h2⟩ := harr
        cases hid : Nat.beq i id <;> rw [hid] at hk <;> simp only [cond_true, cond_false] at hk
        · refine ⟨o, hk, W', w', a', f'.go, f'.regs, f'.marks, ?_⟩
          rw [hx]
          refine ⟨K1, h1, ?_⟩
          rw [h2]
          have hne : (id == i) = false := by
            rw [← Bool.not_eq_true]
            intro he
            have : id = i := by simpa using he
            subst this
            simp at hid
          simp [exitTo, hne]
        · have : i = id := Nat.eq_of_beq_eq_true hid
          subst this
          exact ⟨_, hk, W', w', a', f'.go, f'.regs, f'.marks, h1.trans (.one (s_exit (by rw [h2]; simp [exitTo])))⟩
      · rename_i hx
        refine ⟨o, hk, W', w', a', f'.go, f'.regs, f'.marks, ?_⟩
        cases hox : o.x with
        | norm => rw [hox] at harr; exact Steps.trans harr (.one s_inBlock)
        | exit i => exact absurd hox (hx i)
        | ret => rw [hox] at harr; exact harr
    · cases hb
  | loop x =>
    simp only [run] at hrun
    obtain ⟨o, hk, W', w', a', f⟩ := hC C x ρ h _ hrun W w b a (.inLoop x :: K) cs _ s (.inl rfl)
    have f' : Fin P C W w h b a (.inLoop x :: K) cs m o W' w' a' := by
      rcases hm with rfl | ⟨_, hb, rfl⟩
      · exact f.of_steps (.one s_loop)
      · injection hb with hb; subst hb
        exact f.of_steps (.one s_inLoop)
    split at hk
    · rename_i hx
      obtain ⟨ox, oρ, ov, oh⟩ := o
      subst hx
      obtain ⟨o2, hk2, W2, w2, a2, f2⟩ := hC C (.loop x) oρ oh k hk W' w' b a' K cs _ (s.next f.go f.regs) (.inr ⟨x, rfl, rfl⟩)
      exact ⟨o2, hk2, W2, w2, a2, f'.trans s f2⟩
    · rename_i hx
      exact ⟨o, hk, W', w', a', f'.go, f'.regs, f'.marks, f'.arr.loop hx⟩
  | scope x =>
    rcases hm with rfl | ⟨_, hb, _⟩
    · simp only [run] at hrun
      obtain ⟨o, hk, W', w', a', f⟩ := hC C x ρ h _ hrun W w b a (.inScope x :: K) cs _ s (.inl rfl)
      have f' := f.of_steps (.one s_scope)
      exact ⟨o, hk, W', w', a', f'.go, f'.regs, f'.marks, f'.arr.scope⟩
    · cases hb
  | region id ops draw =>
    rcases hm with rfl | ⟨_, hb, _⟩
    · cases draw with
      | true => exact hD C id ops ρ h k hrun W w b a K cs s
      | false =>
        simp only [run] at hrun
        obtain ⟨o, hk, W', w', a', f⟩ := hO C ops ops.toList ρ h k hrun W w b a K cs (List.range ops.size) s (by simp) (fun j i hi => by
          obtain ⟨hj, hi⟩ := List.getElem?_eq_some_iff.1 hi
          rw [List.getElem_range] at hi
          subst hi
          rw [Array.getElem?_toList])
        have f' := f.of_steps (.one (s_region (id := id)))
        exact ⟨o, hk, W', w', a', f'.go, f'.regs, f'.marks, f'.arr.region⟩
    · cases hb
  | rangeFunc f ps x y =>
    rcases hm with rfl | ⟨_, hb, _⟩
    · exact range_sim hK hrun s
    · cases hb
  | goto l => simp only [run] at hrun; cases hrun
  | refuse l => simp only [run] at hrun; cases hrun
end
end Go.PI
namespace Go.PI
section
variable {T : Pg} {C : Cx} {ρ ρ' : Regs} {n : Nat} {p : PV} {h h' : H}
/-! ### where no choice is made -/
theorem nextP_det {x : Operand} {l : List (PV × H)} (hd : C.det = true) (hl : nextP C ρ h x = some l) : ∃ e, l = [e] := by
  unfold nextP at hl
  split at hl
  · split at hl
    · cases hl
    · split at hl
      · injection hl with hl; exact ⟨_, hl.symm⟩
      · split at hl
        · dsimp only at hl
          split at hl
          · split at hl
            · injection hl with hl; exact ⟨_, hl.symm⟩
            · rename_i e r _
              split at hl
              · cases hl
              · rename_i hc
                injection hl with hl
                have : r = [] := by
                  rw [hd, Bool.true_and] at hc
                  cases r with
                  | nil => rfl
                  | cons e r => simp at hc
                subst this
                exact ⟨_, hl.symm⟩
          · cases hl
        · cases hl
      · cases hl
  · cases hl
theorem exec_det {call : Cx → PV → List PV → H → (PV → H → Bool) → Bool} (hcall : ∀ C f vs h k, C.det = true → call C f vs h k = true → ∃ v h', k v h' = true ∧ ∀ k', call C f vs h k' = k' v h')
    {op : Op} {k : PV → H → Bool} (hd : C.det = true) (he : exec T call C ρ h op k = true) : ∃ v h', k v h' = true ∧ ∀ k', exec T call C ρ h op k' = k' v h' := by
  unfold exec at he ⊢
  split at he
  · rename_i f args ats
    split at he
    · rename_i fv vs hf hv
      obtain ⟨v, h', h1, h2⟩ := hcall _ _ _ _ _ hd he
      exact ⟨v, h', h1, h2⟩
    · cases he
  · rename_i x
    split at he
    · rename_i l hl
      obtain ⟨e, rfl⟩ := nextP_det hd hl
      exact ⟨e.1, e.2, by simpa using he, fun k' => by simp⟩
    · cases he
  · rename_i h1 h2
    split at he
    · rename_i v h' hop
      exact ⟨v, h', he, fun k' => rfl⟩
    · cases he
/-- Where no choice is made there is one end. -/
theorem run_det : ∀ (n : Nat) (C : Cx) (t : Task) (h : H) (k : Out → Bool), C.det = true → run T n C t h k = true → ∃ r, k r = true ∧ ∀ k', run T n C t h k' = k' r
  | 0, _, _, _, _, _, h => by simp only [run] at h; cases h
  | n + 1, C, .code c ρ, h, k, hd, hr => by
    cases c <;> simp only [run] at hr ⊢
    case skip => exact ⟨_, hr, fun _ => rfl⟩
    case label => exact ⟨_, hr, fun _ => rfl⟩
    case ret => exact ⟨_, hr, fun _ => rfl⟩
    case exit => exact ⟨_, hr, fun _ => rfl⟩
    case seq a b =>
      obtain ⟨r, h1, h2⟩ := run_det n C _ _ _ hd hr
      split at h1
      · rename_i hx
        obtain ⟨r', h3, h4⟩ := run_det n C _ _ _ hd h1
        exact ⟨r', h3, fun k' => by rw [h2]; simp only [hx]; exact h4 k'⟩
      · rename_i hx
        refine ⟨r, h1, fun k' => ?_⟩
        rw [h2]
        cases hx' : r.x <;> simp_all
    case cond c a b =>
      split at hr
      · exact run_det n C _ _ _ hd hr
      · exact run_det n C _ _ _ hd hr
      · cases hr
    case block id b =>
      obtain ⟨r, h1, h2⟩ := run_det n C _ _ _ hd hr
      split at h1
      · rename_i i hx
        cases hb : Nat.beq i id <;> rw [hb] at h1 <;> simp only [cond_true, cond_false] at h1
        · exact ⟨_, h1, fun k' => by rw [h2]; simp only [hx, hb, cond_false]⟩
        · exact ⟨_, h1, fun k' => by rw [h2]; simp only [hx, hb, cond_true]⟩
      · rename_i hx
        refine ⟨r, h1, fun k' => ?_⟩
        rw [h2]
        cases hx' : r.x <;> simp_all
    case loop b =>
      obtain ⟨r, h1, h2⟩ := run_det n C _ _ _ hd hr
      split at h1
      · rename_i hx
        obtain ⟨r', h3, h4⟩ := run_det n C _ _ _ hd h1
        exact ⟨r', h3, fun k' => by rw [h2]; simp only [hx]; exact h4 k'⟩
      · rename_i hx
        refine ⟨r, h1, fun k' => ?_⟩
        rw [h2]
        cases hx' : r.x <;> simp_all
    case scope b => exact run_det n C _ _ _ hd hr
    case region id ops draw =>
      cases draw with
      | false => exact run_det n C _ _ _ hd hr
      | true =>
        simp only at hr ⊢
        split at hr
        · cases hr
        · exact run_det n C _ _ _ hd hr
    case rangeFunc f ps a b =>
      split at hr
      · cases hr
      · split at hr
        · cases hr
        · rename_i hc
          obtain ⟨r, h1, h2⟩ := run_det n C _ _ _ hd hr
          split at h1
          · rename_i lr hl
            split at h1
            · cases h1
            · rename_i hst
              split at h1
              · rename_i hp
                exact ⟨_, h1, fun k' => by rw [if_neg hc, h2]; simp only [hl, hp, if_neg hst]⟩
              · rename_i hp
                exact ⟨_, h1, fun k' => by rw [if_neg hc, h2]; simp only [hl, hp, if_neg hst]⟩
              · rename_i i hp
                exact ⟨_, h1, fun k' => by rw [if_neg hc, h2]; simp only [hl, hp, if_neg hst]⟩
              · cases h1
          · cases h1
    all_goals (cases hr)
  | n + 1, C, .ops all [] ρ, h, k, hd, hr => by
    simp only [run] at hr ⊢
    exact ⟨_, hr, fun _ => rfl⟩
  | n + 1, C, .ops all (o :: l) ρ, h, k, hd, hr => by
    simp only [run] at hr ⊢
    split at hr
    · cases hr
    · split at hr
      · exact run_det n C _ _ _ hd hr
      · cases hr
    · obtain ⟨v, h', h1, h2⟩ := exec_det (fun C f vs h k hd hr => let ⟨r, h1, h2⟩ := run_det n C _ _ _ hd hr; ⟨r.v, r.h, h1, fun k' => h2 _⟩) hd hr
      split at h1
      · rename_i ρ' hp
        obtain ⟨r, h3, h4⟩ := run_det n C _ _ _ hd h1
        exact ⟨r, h3, fun k' => by rw [h2]; simp only [hp]; exact h4 k'⟩
      · cases h1
  | n + 1, C, .draw all [] late ρ q ms, h, k, hd, hr => by
    simp only [run] at hr ⊢
    exact run_det n C _ _ _ hd hr
  | n + 1, C, .draw all (d :: l) late ρ q ms, h, k, hd, hr => by
    simp only [run] at hr ⊢
    split at hr
    · cases hr
    · split at hr
      · exact run_det n C _ _ _ hd hr
      · cases hr
    · split at hr
      · split at hr
        · split at hr
          · exact run_det n C _ _ _ hd hr
          · cases hr
        · cases hr
      · split at hr
        · split at hr
          · exact run_det n C _ _ _ hd hr
          · cases hr
        · cases hr
      · split at hr
        · split at hr
          · split at hr
            · obtain ⟨r, h1, h2⟩ := run_det n _ _ _ _ rfl hr
              split at h1
              · rename_i ρ' hp
                obtain ⟨r', h3, h4⟩ := run_det n C _ _ _ hd h1
                exact ⟨r', h3, fun k' => by rw [h2]; simp only [hp]; exact h4 k'⟩
              · cases h1
            · cases hr
          · cases hr
        · split at hr
          · split at hr
            · exact run_det n C _ _ _ hd hr
            · cases hr
          · cases hr
      · cases hr
  | n + 1, C, .tail all [] ρ ms, h, k, hd, hr => by
    simp only [run] at hr ⊢
    exact ⟨_, hr, fun _ => rfl⟩
  | n + 1, C, .tail all (d :: l) ρ ms, h, k, hd, hr => by
    simp only [run] at hr ⊢
    split at hr
    · cases hr
    · split at hr
      · exact run_det n C _ _ _ hd hr
      · cases hr
    · split at hr
      · split at hr
        · split at hr
          · exact run_det n C _ _ _ hd hr
          · cases hr
        · cases hr
      · obtain ⟨v, h', h1, h2⟩ := exec_det (fun C f vs h k hd hr => let ⟨r, h1, h2⟩ := run_det n C _ _ _ hd hr; ⟨r.v, r.h, h1, fun k' => h2 _⟩) (by exact hd) hr
        split at h1
        · rename_i ρ' hp
          obtain ⟨r, h3, h4⟩ := run_det n C _ _ _ hd h1
          exact ⟨r, h3, fun k' => by rw [h2]; simp only [hp]; exact h4 k'⟩
        · cases h1
  | n + 1, C, .call fv args, h, k, hd, hr => by
    cases fv <;> simp only [run] at hr ⊢ <;> (try (cases hr; done))
    case fn f first caps =>
      split at hr
      · exact ⟨_, hr, fun _ => rfl⟩
      · split at hr
        · split at hr
          · generalize hb : (Nat.ble (first ++ args ++ caps).length _ && Nat.ble _ wide) = bb at hr ⊢
            cases bb <;> simp only [cond_true, cond_false] at hr ⊢
            · cases hr
            cases hp : T.pure C.me f <;> rw [hp] at hr <;> simp only [cond_true, cond_false] at hr ⊢
            · obtain ⟨r, h1, h2⟩ := run_det n _ _ _ _ (by exact hd) hr
              split at h1
              · cases h1
              · rename_i hne
                split at h1
                · rename_i v hv
                  refine ⟨_, h1, fun k' => ?_⟩
                  rw [h2]
                  cases hx : r.x <;> simp_all
                · cases h1
            · obtain ⟨r, h1, h2⟩ := run_det n _ _ _ _ (by exact hd) hr
              split at h1
              · cases h1
              · rename_i hne
                split at h1
                · rename_i v hv
                  split at h1
                  · rename_i v' hf
                    refine ⟨_, h1, fun k' => ?_⟩
                    rw [h2]
                    cases hx : r.x <;> simp_all
                  · cases h1
                · cases h1
          · cases hr
        · cases hr
    case yld l =>
      split at hr
      · cases hr
      rename_i hno
      split at hr
      · rename_i lr hl
        split at hr
        · rename_i hst
          split at hr
          · rename_i ρ0 hp
            obtain ⟨r, h1, h2⟩ := run_det n _ _ _ _ (by exact hd) hr
            split at h1
            · rename_i hx
              split at h1
              · rename_i lr1 hl1
                split at h1
                · rename_i hst1
                  obtain ⟨r3, h3, h4⟩ := run_det n _ _ _ _ (by exact hd) h1
                  split at h3
                  · rename_i lr3 hl3
                    have key : ∀ k', _ := fun k' => h4 k'
                    split at h3
                    · rename_i hx3
                      exact ⟨_, h3, fun k' => by rw [if_neg hno, if_pos hst, h2]; simp only [hx, hl1, if_pos hst1, h4, hl3, hx3]⟩
                    · rename_i hx3
                      exact ⟨_, h3, fun k' => by rw [if_neg hno, if_pos hst, h2]; simp only [hx, hl1, if_pos hst1, h4, hl3, hx3]⟩
                    · rename_i i hx3
                      exact ⟨_, h3, fun k' => by rw [if_neg hno, if_pos hst, h2]; simp only [hx, hl1, if_pos hst1, h4, hl3, hx3]⟩
                  · cases h3
                · cases h1
              · cases h1
            · cases h1
          · cases hr
        · cases hr
      · cases hr
end
end Go.PI
namespace Go.PI
section
variable {W W' W'' W1 : Wd} {w w' w'' w1 w2 : World} {P : Program} {T : Pg} {C C' : Cx} {ρ ρ' : Regs} {a a' a'' : Act} {n : Nat} {p : PV} {h h' h'' : H} {b : Frame} {K : List Item} {cs : List Frame} {m m' : Machine} {o o' : Out}
/-- A call that writes nothing of its callers': the world has grown, no more. -/
theorem pure_sim (hE : Env P T) (hC : SimCode P T n) {f : FuncId} {args : List PV} {k : Out → Bool} (hp : pureV T C.me (.fn f [] []) = true) (hrun : run T (n + 1) C (.call (.fn f [] []) args) h k = true) {vs : List Value} (hh : HRel W w h) (has : RelL W w args vs) :
    ∃ nx fr, (callOf (.func (.func f) #[] #[]) vs.toArray).run P w = .ok nx w ∧ entered P nx = some fr ∧
      ∀ c cs, ∃ o, k o = true ∧ ∃ w' v', Grew w w' ∧ Rel W w' o.v v' ∧ Steps P (lone fr (c :: cs) w) (lone (c.finish v') cs w') := by
  simp only [run, List.nil_append, List.append_nil] at hrun
  split at hrun
  · rename_i v' hsum
    obtain ⟨s, hsum, hs⟩ := Option.bind_eq_some_iff.1 hsum
    obtain ⟨⟨fn, hf, hn, hb⟩, hS⟩ := hE.sum f s hsum
    refine ⟨_, _, run_call_fn hf hn hb, rfl, fun c cs => ?_⟩
    simp only [Array.empty_append, Array.append_empty]
    obtain ⟨w', u, h1, h2, h3⟩ := hS _ _ _ hs W w _ hh has c cs
    exact ⟨_, hrun, w', u, h1, h2, h3⟩
  · rename_i hsum
    have hpu : T.pure C.me f = true := by simpa [pureV] using hp
    split at hrun
    · rename_i fn hfn
      obtain ⟨hf, hn⟩ := hE.fn f fn hfn
      split at hrun
      · rename_i body hb
        refine ⟨_, _, run_call_fn hf hn (by simp [hb]), rfl, fun c cs => ?_⟩
        simp only [Array.empty_append, Array.append_empty]
        cases hbd : (Nat.ble args.length fn.ntmps && Nat.ble fn.ntmps wide) <;> rw [hbd] at hrun <;> simp only [cond_true, cond_false] at hrun
        · cases hrun
        obtain ⟨hb1, hb2⟩ := Bool.and_eq_true_iff.1 hbd
        rw [hpu] at hrun
        simp only [cond_true] at hrun
        obtain ⟨o, hk, W', w', v, v', g1, g2, g3, g4⟩ := body_sim hE hC (C := { C with me := f, nt := fn.ntmps, lo := h.rows.length, rd := none }) hf hb hh has (Nat.le_of_ble_eq_true hb1) (Nat.le_of_ble_eq_true hb2) rfl rfl rfl hrun (fun o ho => by
          split at ho
          · cases ho
          · rename_i hne
            refine ⟨fun i hi => hne i hi, ?_⟩
            split at ho
            · rename_i v hv; exact ⟨v, hv⟩
            · cases ho) c cs
        split at hk
        · cases hk
        · rw [g2] at hk
          simp only at hk
          split at hk
          · rename_i v'' hfr
            obtain ⟨h1, h2⟩ := g1.pure hh rfl
            rw [hh.n] at hfr
            have := freeze_rel g1.rel h2 _ true _ _ _ hfr g3
            exact ⟨_, hk, w', v', h1, this, g4⟩
          · cases hk
      · cases hrun
    · cases hrun
/-- Temporaries that are looked at alone. -/
theorem only_get : ∀ (l : List Nat) (t : Nat) (v : PV), gt (only ρ l) t = some v → t ∈ l ∧ gt ρ t = some v
  | [], t, v, h => by simp only [only] at h; rw [gt_e] at h; cases h
  | u :: l, t, v, h => by
    simp only [only] at h
    split at h
    · rename_i q hq
      have hu : u < wide := by
        unfold gt at hq
        cases hb : Nat.blt u wide with
        | false => rw [hb] at hq; simp at hq
        | true => exact Nat.blt_eq ▸ hb
      rw [gt_st hu] at h
      split at h
      · rename_i he
        subst he
        injection h with h; subst h
        exact ⟨by simp, hq⟩
      · obtain ⟨h1, h2⟩ := only_get l t v h
        exact ⟨by simp [h1], h2⟩
    · obtain ⟨h1, h2⟩ := only_get l t v h
      exact ⟨by simp [h1], h2⟩
end
end Go.PI
namespace Go.PI
section
variable {P : Program} {b : Frame} {K : List Item} {cs : List Frame} {ops : Array Oper}
/-- A drawn order, one operation behind the other: what holds at each set of listed ones. 'k': how many are listed. -/
theorem sched_run {I : Nat → Array Bool → Act → World → Prop}
    (hI : ∀ k listed a w i, I k listed a w → i ∈ Region.ready .any ops listed → ∀ rest, ∃ a' w', Steps P (lone (put b a (.inRegion ops (i :: rest) :: K)) cs w) (lone (put b a' (.inRegion ops rest :: K)) cs w') ∧ I (k + 1) (listed.setIfInBounds i true) a' w') :
    ∀ (fuel t k : Nat) (listed : Array Bool) (a : Act) (w : World), I k listed a w →
      ∃ k' listed' a' w', I k' listed' a' w' ∧ (Region.ready .any ops listed' = [] ∨ k' = k + fuel) ∧ Steps P (lone (put b a (.inRegion ops (Region.linearise.go .any ops fuel t listed []) :: K)) cs w) (lone (put b a' (.inRegion ops [] :: K)) cs w')
  | 0, t, k, listed, a, w, h => ⟨k, listed, a, w, h, .inr rfl, by simp only [Region.linearise.go, List.reverse_nil]; exact .refl _ _⟩
  | fuel + 1, t, k, listed, a, w, h => by
    simp only [Region.linearise.go]
    change ∃ k' listed' a' w', I k' listed' a' w' ∧ (Region.ready .any ops listed' = [] ∨ k' = k + (fuel + 1)) ∧ Steps P (lone (put b a (.inRegion ops (match (Region.ready .any ops listed)[t % (Region.ready .any ops listed).length]? with
      | some i => Region.linearise.go .any ops fuel (t / (Region.ready .any ops listed).length) (listed.setIfInBounds i true) [i]
      | none => [].reverse) :: K)) cs w) _
    cases hi : (Region.ready .any ops listed)[t % (Region.ready .any ops listed).length]? with
    | none =>
      have hnil : Region.ready .any ops listed = [] := by
        cases hr : Region.ready .any ops listed with
        | nil => rfl
        | cons x xs =>
          rw [hr] at hi
          have hlt : t % (x :: xs).length < (x :: xs).length := Nat.mod_lt _ (by simp)
          simp at hi
          simp at hlt
          omega
      exact ⟨k, listed, a, w, h, .inl hnil, .refl _ _⟩
    | some i =>
      simp only []
      rw [linearise_go_acc, List.reverse_singleton, List.singleton_append]
      obtain ⟨a1, w1, hs, h1⟩ := hI k listed a w i h (List.mem_of_getElem? hi) (Region.linearise.go .any ops fuel (t / (Region.ready .any ops listed).length) (listed.setIfInBounds i true) [])
      obtain ⟨k', l', a', w', g1, g2, g3⟩ := sched_run hI fuel (t / (Region.ready .any ops listed).length) (k + 1) _ a1 w1 h1
      exact ⟨k', l', a', w', g1, g2.imp id (fun e => by omega), hs.trans g3⟩
end
end Go.PI
namespace Go.PI
/-! ### what the check of a drawn region says -/
section
variable {T : Pg} {me : FuncId} {ops : Array Oper}
theorem mem_dops : ∀ (l : List Oper) (bs : List Nat) (i : Nat) (d : DOp), d ∈ dops T me ops l bs i → ∃ j, d.i = i + j ∧ l[j]? = some d.o ∧ d.ns = namesOf ops d.o ∧ d.kd = does T me d.o
  | [], _, _, d, h => by simp [dops] at h
  | _ :: _, [], _, d, h => by simp [dops] at h
  | o :: r, b :: bs, i, d, h => by
    simp only [dops, List.mem_cons] at h
    rcases h with rfl | h
    · exact ⟨0, rfl, rfl, rfl, rfl⟩
    · obtain ⟨j, h1, h2⟩ := mem_dops r bs (i + 1) d h
      exact ⟨j + 1, by omega, by simpa using h2⟩
theorem dops_uniq : ∀ (l : List Oper) (bs : List Nat) (i : Nat) (d e : DOp), d ∈ dops T me ops l bs i → e ∈ dops T me ops l bs i → d.i = e.i → d = e
  | [], _, _, d, e, h, _, _ => by simp [dops] at h
  | _ :: _, [], _, d, e, h, _, _ => by simp [dops] at h
  | o :: r, b :: bs, i, d, e, h, h', he => by
    simp only [dops, List.mem_cons] at h h'
    rcases h with rfl | h <;> rcases h' with rfl | h'
    · rfl
    · obtain ⟨j, h1, _⟩ := mem_dops _ _ _ _ h'
      simp only at he; omega
    · obtain ⟨j, h1, _⟩ := mem_dops _ _ _ _ h
      simp only at he; omega
    · exact dops_uniq r bs (i + 1) d e h h' he
theorem mem_arrange {nn ne : List DOp} : ∀ (r : List DOp) (j : Nat) (d : DOp), d ∈ arrange nn ne r j → d ∈ ne ∨ d ∈ r
  | [], j, d, h => by
    simp only [arrange, List.mem_filter] at h
    exact .inl h.1
  | w :: r, j, d, h => by
    simp only [arrange, List.mem_append, List.mem_cons, List.mem_filter] at h
    rcases h with h | h | h
    · exact .inl h.1
    · exact .inr (by simp [h])
    · exact (mem_arrange r (j + 1) d h).imp id (fun h => by simp [h])
theorem testBit_bitsOf {f : DOp → Bool} : ∀ {l : List DOp} {d : DOp}, d ∈ l → f d = true → (bitsOf f l).testBit d.i = true
  | [], d, h, _ => by simp at h
  | e :: l, d, h, hf => by
    simp only [bitsOf, Nat.testBit_or, Bool.or_eq_true]
    simp only [List.mem_cons] at h
    rcases h with rfl | h
    · left; simp [hf, Nat.testBit_two_pow_self]
    · right; exact testBit_bitsOf h hf
theorem sub_bits {a b : Nat} (h : Nat.beq (a &&& b) b = true) {i : Nat} (hi : b.testBit i = true) : a.testBit i = true := by
  have h1 : a &&& b = b := Nat.eq_of_beq_eq_true h
  rw [← h1, Nat.testBit_and, Bool.and_eq_true] at hi
  exact hi.1
theorem okSeq_all {full : Nat} : ∀ {l : List DOp} {seen : Nat}, okSeq full l seen = true → ∀ i, full.testBit i = true → seen.testBit i = true ∨ ∃ d ∈ l, d.i = i
  | [], seen, h, i, hi => by
    simp only [okSeq] at h
    exact .inl (Nat.eq_of_beq_eq_true h ▸ hi)
  | d :: l, seen, h, i, hi => by
    simp only [okSeq, Bool.and_eq_true] at h
    rcases okSeq_all h.2 i hi with h1 | ⟨e, he, h1⟩
    · rw [Nat.testBit_or, Bool.or_eq_true, Nat.testBit_two_pow] at h1
      rcases h1 with h1 | h1
      · exact .inl h1
      · exact .inr ⟨d, by simp, by simpa using h1⟩
    · exact .inr ⟨e, by simp [he], h1⟩
theorem okSeq_at {full : Nat} : ∀ {l : List DOp} {seen : Nat}, okSeq full l seen = true → ∀ (l1 l2 : List DOp) (d : DOp), l = l1 ++ d :: l2 →
    (∀ j, d.b.testBit j = true → seen.testBit j = true ∨ ∃ e ∈ l1, e.i = j) ∧ seen.testBit d.i = false ∧ ∀ e ∈ l1, e.i ≠ d.i
  | [], seen, h, l1, l2, d, he => by simp at he
  | x :: l, seen, h, l1, l2, d, he => by
    simp only [okSeq, Bool.and_eq_true, Bool.not_eq_true'] at h
    obtain ⟨⟨h1, h2⟩, h3⟩ := h
    cases l1 with
    | nil =>
      simp only [List.nil_append, List.cons.injEq] at he
      obtain ⟨rfl, rfl⟩ := he
      exact ⟨fun j hj => .inl (sub_bits h1 hj), h2, fun e he => by simp at he⟩
    | cons y l1 =>
      simp only [List.cons_append, List.cons.injEq] at he
      obtain ⟨rfl, rfl⟩ := he
      obtain ⟨g1, g2, g3⟩ := okSeq_at h3 l1 l2 d rfl
      rw [Nat.testBit_or, Bool.or_eq_false_iff, Nat.testBit_two_pow] at g2
      have hne : x.i ≠ d.i := by simpa using g2.2
      refine ⟨fun j hj => ?_, g2.1, fun e he => ?_⟩
      · rcases g1 j hj with g | ⟨e, he, g⟩
        · rw [Nat.testBit_or, Bool.or_eq_true, Nat.testBit_two_pow] at g
          rcases g with g | g
          · exact .inl g
          · exact .inr ⟨x, by simp, by simpa using g⟩
        · exact .inr ⟨e, by simp [he], g⟩
      · simp only [List.mem_cons] at he
        rcases he with rfl | he
        · exact hne
        · exact g3 e he
theorem okLate_at {A : Nat} : ∀ {l : List DOp} {ws : Nat}, okLate A l ws = true → ∀ (l1 l2 : List DOp) (d : DOp), l = l1 ++ d :: l2 →
    (∀ j, ws.testBit j = true → d.b.testBit j = true) ∧ (∀ e ∈ l1, e.kd.isN = false → d.b.testBit e.i = true) ∧ (d.kd.isN = false → ∀ j, A.testBit j = true → d.b.testBit j = true)
  | [], ws, h, l1, l2, d, he => by simp at he
  | x :: l, ws, h, l1, l2, d, he => by
    simp only [okLate, Bool.and_eq_true] at h
    obtain ⟨h1, h2⟩ := h
    cases l1 with
    | nil =>
      simp only [List.nil_append, List.cons.injEq] at he
      obtain ⟨rfl, rfl⟩ := he
      refine ⟨fun j hj => sub_bits h1 hj, fun e he => by simp at he, fun hn j hj => ?_⟩
      rw [hn] at h2
      simp only [cond_false, Bool.and_eq_true] at h2
      exact sub_bits h2.1 hj
    | cons y l1 =>
      simp only [List.cons_append, List.cons.injEq] at he
      obtain ⟨rfl, rfl⟩ := he
      cases hn : x.kd.isN with
      | true =>
        rw [hn] at h2
        simp only [cond_true] at h2
        obtain ⟨g1, g2, g3⟩ := okLate_at h2 l1 l2 d rfl
        refine ⟨g1, fun e he hen => ?_, g3⟩
        simp only [List.mem_cons] at he
        rcases he with rfl | he
        · rw [hn] at hen; cases hen
        · exact g2 e he hen
      | false =>
        rw [hn] at h2
        simp only [cond_false, Bool.and_eq_true] at h2
        obtain ⟨g1, g2, g3⟩ := okLate_at h2.2 l1 l2 d rfl
        refine ⟨fun j hj => g1 j (by rw [Nat.testBit_or, hj]; rfl), fun e he hen => ?_, g3⟩
        simp only [List.mem_cons] at he
        rcases he with rfl | he
        · exact g1 _ (by rw [Nat.testBit_or, Nat.testBit_two_pow_self, Bool.or_true])
        · exact g2 e he hen
/-- What is known of a region that may be gone through. -/
structure Ok (T : Pg) (me : FuncId) (ops : Array Oper) (p : Plan) : Prop where
  mem : ∀ d ∈ p.fst ++ p.late, ops[d.i]? = some d.o ∧ d.ns = namesOf ops d.o ∧ d.kd = does T me d.o
  all : ∀ i o, ops[i]? = some o → ∃ d ∈ p.fst ++ p.late, d.i = i
  uniq : ∀ d ∈ p.fst ++ p.late, ∀ e ∈ p.fst ++ p.late, d.i = e.i → d = e
  back : ∀ d ∈ p.fst ++ p.late, ∀ j, d.b.testBit j = true → j < d.i
  edge : ∀ d ∈ p.fst ++ p.late, ∀ e ∈ d.o.after, Region.binds .any e = true → d.b.testBit e.on = true
  edges : ∀ d ∈ p.fst ++ p.late, ∀ j, d.b.testBit j = true → ∃ e ∈ d.o.after, Region.binds .any e = true ∧ (j = e.on ∨ ∃ x ∈ p.fst ++ p.late, x.i = e.on ∧ x.b.testBit j = true)
  tmps : ∀ d ∈ p.fst ++ p.late, ∀ e ∈ p.fst ++ p.late, ∀ t, e.o.dst = some t → (t ∈ d.ns ∨ d.o.dst = some t) → d.i = e.i ∨ d.b.testBit e.i = true ∨ e.b.testBit d.i = true
  seq : ∀ l1 l2 d, p.fst ++ p.late = l1 ++ d :: l2 → (∀ j, d.b.testBit j = true → ∃ e ∈ l1, e.i = j) ∧ ∀ e ∈ l1, e.i ≠ d.i
  late : ∀ l1 l2 d, p.late = l1 ++ d :: l2 → (∀ e ∈ l1, e.kd.isN = false → d.b.testBit e.i = true) ∧ (d.kd.isN = false → ∀ e ∈ p.fst, fast e = true → d.b.testBit e.i = true)
  fst : ∀ d ∈ p.fst, d.kd.isW = false
  na : p.na = (p.fst.filter fun d => d.kd.isA).length
theorem testBit_foldr {after : List Edge} {f : Nat → Nat} {j : Nat} : (after.foldr (fun e s => bif Region.binds .any e then (2 ^ e.on ||| f e.on) ||| s else s) 0).testBit j = true ↔
    ∃ e ∈ after, Region.binds .any e = true ∧ (j = e.on ∨ (f e.on).testBit j = true) := by
  induction after with
  | nil => simp
  | cons e l ih =>
    simp only [List.foldr_cons]
    cases hb : Region.binds .any e with
    | false =>
      simp only [cond_false, ih]
      constructor
      · rintro ⟨x, hx, h1, h2⟩; exact ⟨x, by simp [hx], h1, h2⟩
      · rintro ⟨x, hx, h1, h2⟩
        simp only [List.mem_cons] at hx
        rcases hx with rfl | hx
        · rw [hb] at h1; cases h1
        · exact ⟨x, hx, h1, h2⟩
    | true =>
      simp only [cond_true, Nat.testBit_or, Bool.or_eq_true, Nat.testBit_two_pow, decide_eq_true_eq, ih]
      constructor
      · rintro ((h | h) | ⟨x, hx, h1, h2⟩)
        · exact ⟨e, by simp, hb, .inl h.symm⟩
        · exact ⟨e, by simp, hb, .inr h⟩
        · exact ⟨x, by simp [hx], h1, h2⟩
      · rintro ⟨x, hx, h1, h2⟩
        simp only [List.mem_cons] at hx
        rcases hx with rfl | hx
        · exact .inl (h2.imp (·.symm) id)
        · exact .inr ⟨x, hx, h1, h2⟩
theorem plan_ok {p : Plan} (h : plan T me ops = some p) : Ok T me ops p := by
  unfold plan at h
  generalize hds : dops T me ops ops.toList (beforeAny ops) 0 = ds at h
  simp only at h
  generalize hws : bitsOf (fun d => d.kd.isW) ds = ws at h
  cases hp : planOk ops ds (ds.filter (early ws)) (lateOf ds ws) with
  | false => rw [hp] at h; simp at h
  | true =>
    rw [hp] at h
    simp only [cond_true, Option.some.injEq] at h
    subst h
    unfold planOk at hp
    simp only [Bool.and_eq_true] at hp
    obtain ⟨h1, h2, h3, h4⟩ := hp
    have hmem : ∀ d ∈ ds.filter (early ws) ++ lateOf ds ws, d ∈ ds := by
      intro d hd
      rw [List.mem_append] at hd
      rcases hd with hd | hd
      · exact (List.mem_filter.1 hd).1
      · unfold lateOf at hd
        rcases mem_arrange _ _ _ hd with hd | hd
        · exact (List.mem_filter.1 (List.mem_filter.1 hd).1).1
        · exact (List.mem_filter.1 (List.mem_filter.1 hd).1).1
    have hds' : ∀ d ∈ ds, ops[d.i]? = some d.o ∧ d.ns = namesOf ops d.o ∧ d.kd = does T me d.o := by
      intro d hd
      rw [← hds] at hd
      obtain ⟨j, g1, g2, g3⟩ := mem_dops _ _ _ _ hd
      rw [Nat.zero_add] at g1
      exact ⟨by rw [g1]; simpa using g2, g3⟩
    have hall : ∀ i o, ops[i]? = some o → ∃ d ∈ ds.filter (early ws) ++ lateOf ds ws, d.i = i := by
      intro i o hi
      have hlt : i < ops.size := (Array.getElem?_eq_some_iff.1 hi).1
      rcases okSeq_all h3 i (by rw [Nat.testBit_two_pow_sub_one]; simpa using hlt) with g | g
      · simp at g
      · exact g
    have huniq : ∀ d ∈ ds, ∀ e ∈ ds, d.i = e.i → d = e := fun d hd e he hi => by
      rw [← hds] at hd he
      exact dops_uniq _ _ _ _ _ hd he hi
    have hedge : ∀ d ∈ ds, d.b < 2 ^ d.i ∧ d.b = d.o.after.toList.foldr (fun e s => bif Region.binds .any e then (2 ^ e.on ||| bOf ds e.on) ||| s else s) 0 := fun d hd => by
      have := List.all_eq_true.1 h1 d hd
      rw [Bool.and_eq_true] at this
      exact ⟨Nat.blt_eq ▸ this.1, Nat.eq_of_beq_eq_true this.2⟩
    refine ⟨fun d hd => hds' d (hmem d hd), hall, fun d hd e he => huniq d (hmem d hd) e (hmem e he), fun d hd j hj => ?_, fun d hd e he hb => ?_, fun d hd j hj => ?_, fun d hd e he t hdst hn => ?_, fun l1 l2 d hl => ?_, fun l1 l2 d hl => ?_, fun d hd => ?_, rfl⟩
    · have := (hedge d (hmem d hd)).1
      rcases Nat.lt_or_ge j d.i with hlt | hge
      · exact hlt
      · have h5 : d.b < 2 ^ j := Nat.lt_of_lt_of_le this (Nat.pow_le_pow_right (by omega) hge)
        rw [Nat.testBit_lt_two_pow h5] at hj; cases hj
    · rw [(hedge d (hmem d hd)).2, testBit_foldr]
      exact ⟨e, by simpa using he, hb, .inl rfl⟩
    · rw [(hedge d (hmem d hd)).2, testBit_foldr] at hj
      obtain ⟨e, he, hb, hj⟩ := hj
      refine ⟨e, by simpa using he, hb, ?_⟩
      rcases hj with hj | hj
      · exact .inl hj
      · right
        unfold bOf at hj
        split at hj
        · rename_i x hx
          have hxi : x.i = e.on := Nat.eq_of_beq_eq_true (List.find?_some (p := fun d : DOp => Nat.beq d.i e.on) hx)
          have hxm := List.mem_of_find?_eq_some hx
          obtain ⟨y, hy, hyi⟩ := hall _ _ (hds' x hxm).1
          have := huniq y (hmem y hy) x hxm hyi
          exact ⟨x, this ▸ hy, hxi, hj⟩
        · simp at hj
    · have h5 := List.all_eq_true.1 h2 e (hmem e he)
      rw [hdst] at h5
      simp only at h5
      have h6 := List.all_eq_true.1 h5 d (hmem d hd)
      simp only [Bool.or_eq_true, Bool.not_eq_true'] at h6
      rcases h6 with h6 | h6 | h6
      · exact .inl (Nat.eq_of_beq_eq_true h6)
      · exfalso
        unfold namesT at h6
        rw [Bool.or_eq_false_iff] at h6
        rcases hn with hn | hn
        · have := List.any_eq_false.1 h6.1 t hn
          simp at this
        · rw [hn] at h6; simp at h6
      · exact .inr h6
    · obtain ⟨g1, g2, g3⟩ := okSeq_at h3 l1 l2 d hl
      exact ⟨fun j hj => (g1 j hj).resolve_left (by simp), g3⟩
    · obtain ⟨g1, g2, g3⟩ := okLate_at h4 l1 l2 d hl
      exact ⟨g2, fun hn e he hf => g3 hn _ (testBit_bitsOf he hf)⟩
    · have := (List.mem_filter.1 hd).2
      unfold early at this
      simp only [Bool.and_eq_true, Bool.not_eq_true'] at this
      exact this.1
end
end Go.PI
namespace Go.PI
/-! ### temporaries in a drawn region -/
/-- Operation j writes t. -/
def wr (ops : Array Oper) (j t : Nat) : Bool :=
  match ops[j]? with
  | some o => match o.dst with
    | some u => Nat.beq u t
    | none => false
  | none => false
/-- The last one of S below n that writes t. -/
def lastOf (ops : Array Oper) (S : Nat → Bool) (t : Nat) : Nat → Option Nat
  | 0 => none
  | n + 1 => if (S n && wr ops n t) = true then some n else lastOf ops S t n
/-- What t holds when S are done. -/
def cur (ops : Array Oper) (S : Nat → Bool) (val : Nat → PV) (ρ0 : Regs) (t : Nat) : Option PV :=
  match lastOf ops S t ops.size with
  | none => gt ρ0 t
  | some j => some (val j)
def upd (val : Nat → PV) (i : Nat) (v : PV) : Nat → PV := fun j => if j = i then v else val j
def addS (S : Nat → Bool) (i : Nat) : Nat → Bool := fun j => Nat.beq j i || S j
def inl (l : List DOp) (j : Nat) : Bool := l.any fun d => Nat.beq d.i j
section
variable {T : Pg} {me : FuncId} {ops : Array Oper} {p : Plan} {S S' : Nat → Bool} {val val' : Nat → PV} {ρ0 : Regs} {t : Nat}
theorem wr_iff {j : Nat} : wr ops j t = true ↔ ∃ o, ops[j]? = some o ∧ o.dst = some t := by
  unfold wr
  cases h : ops[j]? with
  | none => simp
  | some o =>
    cases hd : o.dst with
    | none => simp [hd]
    | some u => simp [hd]
theorem inl_iff {l : List DOp} {j : Nat} : inl l j = true ↔ ∃ d ∈ l, d.i = j := by
  simp [inl, List.any_eq_true]
theorem addS_iff {i j : Nat} : addS S i j = true ↔ j = i ∨ S j = true := by
  simp [addS]
theorem addS_ne {i j : Nat} (h : j ≠ i) : addS S i j = S j := by
  simp [addS]
  intro e; exact absurd e h
theorem lastOf_congr : ∀ {n : Nat}, (∀ j, j < n → wr ops j t = true → S j = S' j) → lastOf ops S t n = lastOf ops S' t n
  | 0, _ => rfl
  | n + 1, h => by
    simp only [lastOf]
    have h1 := lastOf_congr (n := n) fun j hj hw => h j (by omega) hw
    cases hw : wr ops n t with
    | false => simp [h1]
    | true => rw [h n (by omega) hw, h1]
theorem lastOf_some : ∀ {n j : Nat}, lastOf ops S t n = some j → S j = true ∧ wr ops j t = true ∧ j < n
  | 0, j, h => by simp [lastOf] at h
  | n + 1, j, h => by
    simp only [lastOf] at h
    split at h
    · rename_i hc
      injection h with h; subst h
      rw [Bool.and_eq_true] at hc
      exact ⟨hc.1, hc.2, by omega⟩
    · obtain ⟨h1, h2, h3⟩ := lastOf_some h
      exact ⟨h1, h2, by omega⟩
theorem lastOf_top : ∀ {n i : Nat}, i < n → S i = true → wr ops i t = true → (∀ k, i < k → wr ops k t = true → S k = false) → lastOf ops S t n = some i
  | 0, i, h, _, _, _ => by omega
  | n + 1, i, h, h1, h2, h3 => by
    simp only [lastOf]
    by_cases he : i = n
    · subst he; simp [h1, h2]
    · have := lastOf_top (n := n) (by omega) h1 h2 h3
      rw [this]
      cases hw : wr ops n t with
      | false => simp
      | true => simp [h3 n (by omega) hw]
theorem wr_lt {j : Nat} (h : wr ops j t = true) : j < ops.size := by
  obtain ⟨o, ho, _⟩ := wr_iff.1 h
  exact (Array.getElem?_eq_some_iff.1 ho).1
/-- S holds with each what stands ahead of it. -/
def Down (p : Plan) (S : Nat → Bool) : Prop := ∀ d ∈ p.fst ++ p.late, S d.i = true → ∀ j, d.b.testBit j = true → S j = true
theorem Down.add (ok : Ok T me ops p) (hS : Down p S) {d : DOp} (hd : d ∈ p.fst ++ p.late) (hb : ∀ j, d.b.testBit j = true → S j = true) : Down p (addS S d.i) := by
  intro e he hs j hj
  rw [addS_iff] at hs ⊢
  rcases hs with hs | hs
  · have := ok.uniq e he d hd hs
    subst this
    exact .inr (hb j hj)
  · exact .inr (hS e he hs j hj)
theorem Ok.done (ok : Ok T me ops p) {done rest : List DOp} (h : p.fst ++ p.late = done ++ rest) : Down p (inl done) := by
  intro d hd hs j hj
  obtain ⟨e, he, hei⟩ := inl_iff.1 hs
  have hem : e ∈ p.fst ++ p.late := by rw [h]; simp [he]
  have := ok.uniq e hem d hd hei
  subst this
  obtain ⟨l1, l2, hl⟩ := List.append_of_mem he
  obtain ⟨x, hx, hxj⟩ := (ok.seq l1 (l2 ++ rest) e (by rw [h, hl]; simp)).1 j hj
  exact inl_iff.2 ⟨x, by rw [hl]; simp [hx], hxj⟩
theorem Ok.next (ok : Ok T me ops p) {done rest : List DOp} {d : DOp} (h : p.fst ++ p.late = done ++ d :: rest) : d ∈ p.fst ++ p.late ∧ (∀ j, d.b.testBit j = true → inl done j = true) ∧ inl done d.i = false := by
  obtain ⟨h1, h2⟩ := ok.seq done rest d h
  refine ⟨by rw [h]; simp, fun j hj => inl_iff.2 (h1 j hj), ?_⟩
  cases hi : inl done d.i with
  | false => rfl
  | true =>
    obtain ⟨e, he, hei⟩ := inl_iff.1 hi
    exact absurd hei (h2 e he)
/-- Whoever writes what d names: is done just if it stands before d. -/
theorem Ok.writes (ok : Ok T me ops p) (hS : Down p S) {d : DOp} (hd : d ∈ p.fst ++ p.late) (hb : ∀ j, d.b.testBit j = true → S j = true) (hi : S d.i = false) (ht : t ∈ d.ns ∨ d.o.dst = some t) {j : Nat} (hj : wr ops j t = true) :
    S j = decide (j < d.i) := by
  obtain ⟨o, ho, hdst⟩ := wr_iff.1 hj
  obtain ⟨e, he, rfl⟩ := ok.all j o ho
  have heo : e.o = o := by
    have := (ok.mem e he).1
    rw [ho] at this; injection this with this; exact this.symm
  rcases ok.tmps d hd e he t (heo ▸ hdst) ht with h | h | h
  · rw [← h, hi]; simp
  · rw [hb _ h]
    have := ok.back d hd _ h
    simp [this]
  · have h1 : S e.i = false := by
      cases hs : S e.i with
      | false => rfl
      | true => rw [hS e he hs _ h] at hi; cases hi
    have := ok.back e he _ h
    rw [h1]
    simp; omega
theorem Ok.ahead (ok : Ok T me ops p) {d : DOp} (hd : d ∈ p.fst ++ p.late) (ht : t ∈ d.ns ∨ d.o.dst = some t) {j : Nat} (hj : wr ops j t = true) (hlt : j < d.i) : d.b.testBit j = true := by
  obtain ⟨o, ho, hdst⟩ := wr_iff.1 hj
  obtain ⟨e, he, rfl⟩ := ok.all j o ho
  have heo : e.o = o := by
    have := (ok.mem e he).1
    rw [ho] at this; injection this with this; exact this.symm
  rcases ok.tmps d hd e he t (heo ▸ hdst) ht with h | h | h
  · omega
  · exact h
  · have := ok.back e he _ h; omega
theorem cur_at (ok : Ok T me ops p) (hS : Down p S) {d : DOp} (hd : d ∈ p.fst ++ p.late) (hb : ∀ j, d.b.testBit j = true → S j = true) (hi : S d.i = false) (ht : t ∈ d.ns ∨ d.o.dst = some t) :
    cur ops S val ρ0 t = cur ops (fun j => decide (j < d.i)) val ρ0 t := by
  unfold cur
  rw [lastOf_congr fun j _ hw => ok.writes hS hd hb hi ht hw]
theorem cur_val (h : ∀ j, S j = true → val' j = val j) : cur ops S val' ρ0 t = cur ops S val ρ0 t := by
  unfold cur
  cases hl : lastOf ops S t ops.size with
  | none => rfl
  | some j => simp only [h j (lastOf_some hl).1]
theorem cur_before (ok : Ok T me ops p) {d : DOp} (hd : d ∈ p.fst ++ p.late) (ht : t ∈ d.ns) (h : ∀ j, d.b.testBit j = true → val' j = val j) :
    cur ops (fun j => decide (j < d.i)) val' ρ0 t = cur ops (fun j => decide (j < d.i)) val ρ0 t := by
  unfold cur
  cases hl : lastOf ops (fun j => decide (j < d.i)) t ops.size with
  | none => rfl
  | some j =>
    obtain ⟨h1, h2, _⟩ := lastOf_some hl
    simp only [h j (ok.ahead hd (.inl ht) h2 (by simpa using h1))]
/-- One more is done. -/
theorem cur_put (ok : Ok T me ops p) (hS : Down p S) {d : DOp} (hd : d ∈ p.fst ++ p.late) (hb : ∀ j, d.b.testBit j = true → S j = true) (hi : S d.i = false) {v : PV} (h : ∀ j, S j = true → val' j = val j) (hv : val' d.i = v) :
    cur ops (addS S d.i) val' ρ0 t = if d.o.dst = some t then some v else cur ops S val ρ0 t := by
  have hdi := (ok.mem d hd).1
  by_cases ht : d.o.dst = some t
  · rw [if_pos ht]
    have hw : wr ops d.i t = true := wr_iff.2 ⟨_, hdi, ht⟩
    unfold cur
    rw [lastOf_top (i := d.i) (wr_lt hw) (addS_iff.2 (.inl rfl)) hw fun k hk hwk => ?_]
    · simp only [hv]
    · rw [addS_ne (by omega), ok.writes hS hd hb hi (.inr ht) hwk]
      simp; omega
  · rw [if_neg ht]
    have : lastOf ops (addS S d.i) t ops.size = lastOf ops S t ops.size := lastOf_congr fun j _ hw => by
      refine addS_ne ?_
      rintro rfl
      obtain ⟨o, ho, hdst⟩ := wr_iff.1 hw
      rw [hdi] at ho; injection ho with ho
      exact ht (ho ▸ hdst)
    unfold cur
    rw [this]
    cases hl : lastOf ops S t ops.size with
    | none => rfl
    | some j => simp only [h j (lastOf_some hl).1]
theorem cur_set (h : ∀ j, j < ops.size → S j = S' j) : cur ops S val ρ0 t = cur ops S' val ρ0 t := by
  unfold cur
  rw [lastOf_congr fun j hj _ => h j hj]
/-! ### rows that are hidden, or kept -/
theorem mem_masked {b : Nat} {y : Bool} {r : Nat} : ∀ {ms : List (Nat × Option (Bool × Nat))}, r ∈ masked b y ms ↔ ∃ i, (i, some (y, r)) ∈ ms ∧ b.testBit i = false
  | [] => by simp [masked]
  | (i, none) :: ms => by simp [masked, mem_masked (ms := ms)]
  | (i, some (y', q)) :: ms => by
    simp only [masked]
    cases hc : (y' == y && !b.testBit i) with
    | false =>
      simp only [cond_false, mem_masked (ms := ms), List.mem_cons]
      constructor
      · rintro ⟨j, h1, h2⟩; exact ⟨j, .inr h1, h2⟩
      · rintro ⟨j, h1 | h1, h2⟩
        · injection h1 with h1 h3; injection h3 with h3; injection h3 with h3 h4
          subst h1; subst h3; subst h4
          simp [h2] at hc
        · exact ⟨j, h1, h2⟩
    | true =>
      simp only [Bool.and_eq_true, beq_iff_eq, Bool.not_eq_true'] at hc
      obtain ⟨rfl, hb⟩ := hc
      simp only [cond_true, List.mem_cons, mem_masked (ms := ms)]
      constructor
      · rintro (rfl | ⟨j, h1, h2⟩)
        · exact ⟨i, .inl rfl, hb⟩
        · exact ⟨j, .inr h1, h2⟩
      · rintro ⟨j, h1 | h1, h2⟩
        · injection h1 with h1 h3; injection h3 with h3; injection h3 with h3 h4
          exact .inl h4
        · exact .inr ⟨j, h1, h2⟩
/-- The new rows of those that are not listed. -/
def hid (S : Nat → Bool) : List (Nat × Option (Bool × Nat)) → List Nat
  | [] => []
  | (i, x) :: r => match x with
    | some (true, q) => if S i = true then hid S r else q :: hid S r
    | _ => hid S r
theorem mem_hid {r : Nat} : ∀ {ms : List (Nat × Option (Bool × Nat))}, r ∈ hid S ms ↔ ∃ i, (i, some (true, r)) ∈ ms ∧ S i = false
  | [] => by simp [hid]
  | (i, none) :: ms => by simp [hid, mem_hid (ms := ms)]
  | (i, some (false, q)) :: ms => by simp [hid, mem_hid (ms := ms)]
  | (i, some (true, q)) :: ms => by
    simp only [hid]
    split
    · rename_i hs
      simp only [mem_hid (ms := ms), List.mem_cons]
      constructor
      · rintro ⟨j, h1, h2⟩; exact ⟨j, .inr h1, h2⟩
      · rintro ⟨j, h1 | h1, h2⟩
        · injection h1 with h1 h3
          subst h1; rw [hs] at h2; cases h2
        · exact ⟨j, h1, h2⟩
    · rename_i hs
      simp only [List.mem_cons, mem_hid (ms := ms)]
      constructor
      · rintro (rfl | ⟨j, h1, h2⟩)
        · exact ⟨i, .inl rfl, by simpa using hs⟩
        · exact ⟨j, .inr h1, h2⟩
      · rintro ⟨j, h1 | h1, h2⟩
        · injection h1 with h1 h3; injection h3 with h3; injection h3 with h3 h4
          exact .inl h4
        · exact .inr ⟨j, h1, h2⟩
theorem maskRow_len : ∀ (m : List Nat) (rs : List PO), (maskRow rs m).length = rs.length
  | [], rs => rfl
  | r :: m, rs => by simp [maskRow, maskRow_len m]
theorem maskRow_get : ∀ (m : List Nat) (rs : List PO) (r : Nat), (maskRow rs m)[r]? = if r ∈ m ∧ r < rs.length then some .dead else rs[r]?
  | [], rs, r => by simp [maskRow]
  | q :: m, rs, r => by
    simp only [maskRow]
    rw [maskRow_get m]
    by_cases h : r = q
    · subst h
      by_cases hl : r < rs.length
      · simp [hl]
      · rw [List.getElem?_eq_none (by simp; omega), List.getElem?_eq_none (by omega)]
        simp [hl]
    · simp [h, List.getElem?_set_ne (Ne.symm h)]
theorem unmask_len (old : List PO) : ∀ (m : List Nat) (rs : List PO), (unmask old rs m).length = rs.length
  | [], rs => rfl
  | r :: m, rs => by simp [unmask, unmask_len old m]
theorem unmask_get (old : List PO) : ∀ (m : List Nat) (rs : List PO) (r : Nat), (unmask old rs m)[r]? = if r ∈ m ∧ r < rs.length then some (old.getD r .dead) else rs[r]?
  | [], rs, r => by simp [unmask]
  | q :: m, rs, r => by
    simp only [unmask]
    rw [unmask_get old m]
    by_cases h : r = q
    · subst h
      by_cases hl : r < rs.length
      · simp [hl]
      · rw [List.getElem?_eq_none (by simp; omega), List.getElem?_eq_none (by omega)]
        simp [hl]
    · simp [h, List.getElem?_set_ne (Ne.symm h)]
end
end Go.PI
namespace Go.PI
abbrev Ms := List (Nat × Option (Bool × Nat))
/-- What PI did for an operation: told so that it can be told again when the machine comes to it. -/
inductive Did (T : Pg) (C : Cx) (N : Nat) (ops : Array Oper) (d : DOp) (ρo : Regs) (v : PV) (h : H) (ms : Ms) : Prop
  | skip (hx : ∀ q, (d.i, some (true, q)) ∉ ms) (hw : wantedP ops ρo d.o = some false) (hv : v = .tup [])
  | neu (hx : ∀ q, (d.i, some (true, q)) ∉ ms) (hw : wantedP ops ρo d.o = some true) (hk : d.kd = .n) (hv : opN T ρo d.o.op = some v)
  | new (q : Nat) (po : PO) (hw : wantedP ops ρo d.o = some true) (hk : d.kd = .a) (hv : opA T ρo q d.o.op = some (v, po)) (hm : (d.i, some (true, q)) ∈ ms) (hq : h.rows[q]? = some po)
  | load (hx : ∀ q, (d.i, some (true, q)) ∉ ms) (hw : wantedP ops ρo d.o = some true) (hk : d.kd = .r) (hn : ∀ r, (d.i, some (false, r)) ∈ ms → r ∉ masked d.b true ms ∧ r < h.rows.length ∧ h.rows[r]? ≠ some .dead)
      (hs : ∀ h' : H, (∀ r, (d.i, some (false, r)) ∈ ms → h'.rows[r]? = h.rows[r]?) → opR T ρo h' d.o.op = some v)
  | read (hx : ∀ q, (d.i, some (true, q)) ∉ ms) (hv : H) (hw : wantedP ops ρo d.o = some true) (hk : d.kd = .r) (hf : fast d = true) (ho : opR T ρo hv d.o.op = some v) (hl : hv.rows.length = h.rows.length)
      (hs : ∀ r po, hv.rows[r]? = some po → po ≠ .dead → h.rows[r]? = some po ∧ r ∉ masked d.b true ms)
  | call (hx : ∀ q, (d.i, some (true, q)) ∉ ms) (hv : H) (n : Nat) (f : FuncId) (args : Array Operand) (ats : Array TypeId) (vs : List PV) (r : Out) (hw : wantedP ops ρo d.o = some true) (hf : fast d = true)
      (hop : d.o.op = .call { callee := .value (.func f), args := args, argTypes := ats }) (hvs : evl ρo args.toList = some vs) (hp : pureV T C.me (.fn f [] []) = true) (hn : n < N)
      (hr : ∀ k, run T (n + 1) { C with det := true } (.call (.fn f [] []) vs) hv k = k r) (hrv : v = r.v) (hl : hv.rows.length = h.rows.length)
      (hs : ∀ r po, hv.rows[r]? = some po → po ≠ .dead → h.rows[r]? = some po ∧ r ∉ masked d.b true ms)
/-- The temporaries that it looked at. -/
def Saw (ops : Array Oper) (ρ0 : Regs) (val : Nat → PV) (d : DOp) (ρo : Regs) : Prop := ∀ t q, gt ρo t = some q → t ∈ d.ns ∧ cur ops (fun j => decide (j < d.i)) val ρ0 t = some q
/-- Where PI stands: 'done' are done; S are listed by the machine. -/
structure PS (T : Pg) (C : Cx) (N : Nat) (ops : Array Oper) (ρ0 : Regs) (S : Nat → Bool) (done : List DOp) (val : Nat → PV) (ρ : Regs) (h : H) (ms : Ms) : Prop where
  regs : ∀ t, gt ρ t = cur ops (inl done) val ρ0 t
  dst : ∀ d ∈ done, ∀ t, d.o.dst = some t → t < C.nt
  did : ∀ d ∈ done, S d.i = false → ∃ ρo, Saw ops ρ0 val d ρo ∧ Did T C N ops d ρo (val d.i) h ms
/-- The new rows. -/
structure ER (h0 h : H) (q : Nat) (ms : Ms) (done : List DOp) : Prop where
  lo : h0.rows.length ≤ q
  old : ∀ r, r < h0.rows.length → h.rows[r]? = h0.rows[r]?
  free : ∀ r, q ≤ r → r < h.rows.length → h.rows[r]? = some .dead
  new : ∀ i r, (i, some (true, r)) ∈ ms → h0.rows.length ≤ r ∧ r < q ∧ inl done i = true
  onto : ∀ r, h0.rows.length ≤ r → r < q → ∃ i, (i, some (true, r)) ∈ ms
  uniq : ∀ i i' r, (i, some (true, r)) ∈ ms → (i', some (true, r)) ∈ ms → i = i'
  one : ∀ i r r', (i, some (true, r)) ∈ ms → (i, some (true, r')) ∈ ms → r = r'
  cnt : q ≤ h0.rows.length + (done.filter fun d => d.kd.isA).length
  kept : ∀ i r, (i, some (false, r)) ∈ ms → inl done i = true
section
variable {T : Pg} {C : Cx} {N : Nat} {ops : Array Oper} {p : Plan} {S S' : Nat → Bool} {val val' : Nat → PV} {ρ0 ρ ρ' ρo : Regs} {t : Nat} {d : DOp} {done rest : List DOp} {h h' h0 : H} {ms ms' : Ms} {v : PV} {k : Out → Bool}
theorem Saw.upd (ok : Ok T C.me ops p) (hd : d ∈ p.fst ++ p.late) (hs : Saw ops ρ0 val d ρo) (hv : ∀ j, d.b.testBit j = true → val' j = val j) : Saw ops ρ0 val' d ρo := by
  intro t q hq
  obtain ⟨h1, h2⟩ := hs t q hq
  exact ⟨h1, by rw [cur_before ok hd h1 hv]; exact h2⟩
theorem gt_wide {u : Nat} {q : PV} (hq : gt ρ u = some q) : u < wide := by
  unfold gt at hq
  cases hb : Nat.blt u wide with
  | false => rw [hb] at hq; simp at hq
  | true => exact Nat.blt_eq ▸ hb
theorem putD_gt (hw : C.nt ≤ wide) {o : Option Tmp} (hp : putD C ρ o v = some ρ') (t : Nat) : gt ρ' t = if o = some t then some v else gt ρ t := by
  cases o with
  | none => simp only [putD] at hp; injection hp with hp; subst hp; simp
  | some u =>
    simp only [putD] at hp
    split at hp
    · rename_i hu
      injection hp with hp; subst hp
      rw [gt_st (Nat.lt_of_lt_of_le hu hw)]
      simp
    · cases hp
theorem saw_only (ok : Ok T C.me ops p) (hl : p.fst ++ p.late = done ++ d :: rest) (hr : ∀ t, gt ρ t = cur ops (inl done) val ρ0 t) : Saw ops ρ0 val d (only ρ d.ns) := by
  obtain ⟨h1, h2, h3⟩ := ok.next hl
  intro t q hq
  obtain ⟨h4, h5⟩ := only_get d.ns t q hq
  refine ⟨h4, ?_⟩
  rw [hr t, cur_at ok (ok.done hl) h1 h2 h3 (.inl h4)] at h5
  exact h5
/-- One more is done by PI. -/
theorem PS.put (ok : Ok T C.me ops p) (hw : C.nt ≤ wide) (hl : p.fst ++ p.late = done ++ d :: rest) (ps : PS T C N ops ρ0 S done val ρ h ms) (hp : putD C ρ d.o.dst v = some ρ')
    (hstill : ∀ e ∈ done, S' e.i = false → S e.i = false ∧ ∀ ρo, Did T C N ops e ρo (val e.i) h ms → Did T C N ops e ρo (val e.i) h' ms')
    (hnew : S' d.i = false → ∃ ρo, Saw ops ρ0 val d ρo ∧ Did T C N ops d ρo v h' ms') :
    PS T C N ops ρ0 S' (done ++ [d]) (upd val d.i v) ρ' h' ms' ∧ ∀ j, inl done j = true → upd val d.i v j = val j := by
  obtain ⟨h1, h2, h3⟩ := ok.next hl
  have hval : ∀ j, inl done j = true → upd val d.i v j = val j := fun j hj => by
    unfold upd
    rw [if_neg]
    rintro rfl
    rw [h3] at hj; cases hj
  refine ⟨⟨fun t => ?_, fun e he t ht => ?_, fun e he hs => ?_⟩, hval⟩
  · rw [putD_gt hw hp, ps.regs t]
    have := cur_put (ρ0 := ρ0) (t := t) ok (ok.done hl) h1 h2 h3 (v := v) hval (by simp [upd])
    rw [← this]
    refine cur_set fun j _ => ?_
    rw [Bool.eq_iff_iff, addS_iff, inl_iff, inl_iff]
    simp only [List.mem_append, List.mem_singleton]
    constructor
    · rintro (rfl | ⟨e, he, rfl⟩)
      · exact ⟨d, .inr rfl, rfl⟩
      · exact ⟨e, .inl he, rfl⟩
    · rintro ⟨e, he | rfl, rfl⟩
      · exact .inr ⟨e, he, rfl⟩
      · exact .inl rfl
  · simp only [List.mem_append, List.mem_singleton] at he
    rcases he with he | rfl
    · exact ps.dst e he t ht
    · rw [ht] at hp
      simp only [putD] at hp
      split at hp
      · assumption
      · cases hp
  · simp only [List.mem_append, List.mem_singleton] at he
    rcases he with he | rfl
    · obtain ⟨g1, g2⟩ := hstill e he hs
      obtain ⟨ρo, g3, g4⟩ := ps.did e he g1
      have hem : e ∈ p.fst ++ p.late := by rw [hl]; simp [he]
      have hei : inl done e.i = true := inl_iff.2 ⟨e, he, rfl⟩
      have hb : ∀ j, e.b.testBit j = true → inl done j = true := ok.done hl e hem hei
      refine ⟨ρo, g3.upd ok hem fun j hj => hval j (hb j hj), ?_⟩
      rw [hval _ hei]
      exact g2 ρo g4
    · obtain ⟨ρo, g3, g4⟩ := hnew hs
      refine ⟨ρo, g3.upd ok h1 fun j hj => hval j (h2 j hj), ?_⟩
      have : upd val e.i v e.i = v := by simp [upd]
      rw [this]; exact g4
/-- A new row is made, for an operation behind. -/
theorem Did.new_row (hd : Did T C N ops d ρo v h ms) {i q : Nat} {po : PO} (hfree : ∀ r, q ≤ r → r < h.rows.length → h.rows[r]? = some .dead) (hms : ∀ i r, (i, some (true, r)) ∈ ms → r < q) (hi : i ≠ d.i) :
    Did T C N ops d ρo v (setRow h q po) ((i, some (true, q)) :: ms) := by
  have hmem : ∀ r, h.rows[r]? ≠ some .dead → r < h.rows.length → r < q := fun r h1 h2 => by
    rcases Nat.lt_or_ge r q with h3 | h3
    · exact h3
    · exact absurd (hfree r h3 h2) h1
  have hrow : ∀ r, r < q → (setRow h q po).rows[r]? = h.rows[r]? := fun r hr => by
    simp only [PI.setRow]
    rw [List.getElem?_set_ne (by omega)]
  have hmask : ∀ r, r < q → r ∉ masked d.b true ms → r ∉ masked d.b true ((i, some (true, q)) :: ms) := fun r hr hm => by
    rw [mem_masked] at hm ⊢
    rintro ⟨j, h1, h2⟩
    simp only [List.mem_cons] at h1
    rcases h1 with h1 | h1
    · injection h1 with h1 h3; injection h3 with h3; injection h3 with h3 h4
      omega
    · exact hm ⟨j, h1, h2⟩
  have hlen : (setRow h q po).rows.length = h.rows.length := by simp [PI.setRow]
  have hsub : ∀ {hv : H}, hv.rows.length = h.rows.length → (∀ r po, hv.rows[r]? = some po → po ≠ .dead → h.rows[r]? = some po ∧ r ∉ masked d.b true ms) → ∀ r po', hv.rows[r]? = some po' → po' ≠ .dead → (setRow h q po).rows[r]? = some po' ∧ r ∉ masked d.b true ((i, some (true, q)) :: ms) := by
    intro hv hl hs r po' h1 h2
    obtain ⟨g1, g2⟩ := hs r po' h1 h2
    have hlt : r < q := hmem r (by rw [g1]; simpa using h2) (List.getElem?_eq_some_iff.1 g1).1
    exact ⟨by rw [hrow r hlt]; exact g1, hmask r hlt g2⟩
  have hx' : (∀ q, (d.i, some (true, q)) ∉ ms) → ∀ q', (d.i, some (true, q')) ∉ (i, some (true, q)) :: ms := fun hx q' hm => by
    simp only [List.mem_cons] at hm
    rcases hm with hm | hm
    · injection hm with hm _; exact hi hm.symm
    · exact hx q' hm
  cases hd with
  | skip hx hw hv => exact .skip (hx' hx) hw hv
  | neu hx hw hk hv => exact .neu (hx' hx) hw hk hv
  | new q' po' hw hk hv hm hq => exact .new q' po' hw hk hv (by simp [hm]) (by rw [hrow q' (hms _ _ hm)]; exact hq)
  | load hx hw hk hn hs =>
    have hlt : ∀ r, (d.i, some (false, r)) ∈ (i, some (true, q)) :: ms → (d.i, some (false, r)) ∈ ms ∧ r < q := fun r hr => by
      simp only [List.mem_cons] at hr
      rcases hr with hr | hr
      · injection hr with _ hr; injection hr with hr; injection hr with hr _; cases hr
      · obtain ⟨_, g2, g3⟩ := hn r hr
        exact ⟨hr, hmem r g3 g2⟩
    refine .load (hx' hx) hw hk (fun r hr => ?_) (fun h' hh' => hs h' fun r hr => ?_)
    · obtain ⟨g1, g2⟩ := hlt r hr
      obtain ⟨g3, g4, g5⟩ := hn r g1
      exact ⟨hmask r g2 g3, by rw [hlen]; exact g4, by rw [hrow r g2]; exact g5⟩
    · rw [hh' r (by simp [hr]), hrow r (hlt r (by simp [hr])).2]
  | read hx hv hw hk hf ho hl hs => exact .read (hx' hx) hv hw hk hf ho (by rw [hlen]; exact hl) (hsub hl hs)
  | call hx hv n f args ats vs r hw hf hop hvs hp hn hr hrv hl hs => exact .call (hx' hx) hv n f args ats vs r hw hf hop hvs hp hn hr hrv (by rw [hlen]; exact hl) (hsub hl hs)
/-- A row is kept for another one's sake. -/
theorem Did.keep (hd : Did T C N ops d ρo v h ms) {i r0 : Nat} (hi : i ≠ d.i) : Did T C N ops d ρo v h ((i, some (false, r0)) :: ms) := by
  have hmask : ∀ r, r ∉ masked d.b true ms → r ∉ masked d.b true ((i, some (false, r0)) :: ms) := fun r hm => by
    rw [mem_masked] at hm ⊢
    rintro ⟨j, h1, h2⟩
    simp only [List.mem_cons] at h1
    rcases h1 with h1 | h1
    · injection h1 with h1 h3; injection h3 with h3; injection h3 with h3 h4; cases h3
    · exact hm ⟨j, h1, h2⟩
  have hx' : (∀ q, (d.i, some (true, q)) ∉ ms) → ∀ q', (d.i, some (true, q')) ∉ (i, some (false, r0)) :: ms := fun hx q' hm => by
    simp only [List.mem_cons] at hm
    rcases hm with hm | hm
    · injection hm with hm _; exact hi hm.symm
    · exact hx q' hm
  cases hd with
  | skip hx hw hv => exact .skip (hx' hx) hw hv
  | neu hx hw hk hv => exact .neu (hx' hx) hw hk hv
  | new q' po' hw hk hv hm hq => exact .new q' po' hw hk hv (by simp [hm]) hq
  | load hx hw hk hn hs =>
    have hlt : ∀ r, (d.i, some (false, r)) ∈ (i, some (false, r0)) :: ms → (d.i, some (false, r)) ∈ ms := fun r hr => by
      simp only [List.mem_cons] at hr
      rcases hr with hr | hr
      · injection hr with hr _; exact absurd hr.symm hi
      · exact hr
    exact .load (hx' hx) hw hk (fun r hr => ⟨hmask r (hn r (hlt r hr)).1, (hn r (hlt r hr)).2⟩) (fun h' hh' => hs h' fun r hr => hh' r (by simp [hr]))
  | read hx hv hw hk hf ho hl hs => exact .read (hx' hx) hv hw hk hf ho hl fun r po h1 h2 => ⟨(hs r po h1 h2).1, hmask r (hs r po h1 h2).2⟩
  | call hx hv n f args ats vs r hw hf hop hvs hp hn hr hrv hl hs => exact .call (hx' hx) hv n f args ats vs r hw hf hop hvs hp hn hr hrv hl fun r po h1 h2 => ⟨(hs r po h1 h2).1, hmask r (hs r po h1 h2).2⟩
theorem ER.next {q : Nat} (er : ER h0 h q ms done) : ER h0 h q ms (done ++ [d]) :=
  ⟨er.lo, er.old, er.free, fun i r hr => let ⟨h1, h2, h3⟩ := er.new i r hr; ⟨h1, h2, by obtain ⟨e, he, hi⟩ := inl_iff.1 h3; exact inl_iff.2 ⟨e, by simp [he], hi⟩⟩, er.onto, er.uniq, er.one, by have := er.cnt; simp only [List.filter_append, List.length_append]; omega, fun i r hr => by
    obtain ⟨e, he, hi⟩ := inl_iff.1 (er.kept i r hr); exact inl_iff.2 ⟨e, by simp [he], hi⟩⟩
theorem ER.keep {q r0 : Nat} (er : ER h0 h q ms done) : ER h0 h q ((d.i, some (false, r0)) :: ms) (done ++ [d]) := by
  have e := er.next (d := d)
  have hm : ∀ i r, (i, some (true, r)) ∈ (d.i, some (false, r0)) :: ms → (i, some (true, r)) ∈ ms := fun i r hr => by
    simp only [List.mem_cons] at hr
    rcases hr with hr | hr
    · injection hr with _ hr; injection hr with hr; injection hr with hr _; cases hr
    · exact hr
  exact ⟨e.lo, e.old, e.free, fun i r hr => e.new i r (hm i r hr), fun r h1 h2 => let ⟨i, hi⟩ := e.onto r h1 h2; ⟨i, by simp [hi]⟩, fun i i' r h1 h2 => e.uniq i i' r (hm _ _ h1) (hm _ _ h2), fun i r r' h1 h2 => e.one i r r' (hm _ _ h1) (hm _ _ h2), e.cnt, fun i r hr => by
    simp only [List.mem_cons] at hr
    rcases hr with hr | hr
    · injection hr with hr _
      exact inl_iff.2 ⟨d, by simp, hr.symm⟩
    · exact e.kept i r hr⟩
theorem ER.make {q : Nat} (er : ER h0 h q ms done) (hk : d.kd.isA = true) (hi : inl done d.i = false) {h' : H} (hlen : h'.rows.length = h.rows.length) (hrow : ∀ r, r ≠ q → h'.rows[r]? = h.rows[r]?) : ER h0 h' (q + 1) ((d.i, some (true, q)) :: ms) (done ++ [d]) := by
  have hin : ∀ i, inl done i = true → inl (done ++ [d]) i = true := fun i h => by
    obtain ⟨e, he, hi⟩ := inl_iff.1 h; exact inl_iff.2 ⟨e, by simp [he], hi⟩
  have hm : ∀ i r, (i, some (true, r)) ∈ (d.i, some (true, q)) :: ms → (i = d.i ∧ r = q) ∨ (i, some (true, r)) ∈ ms := fun i r hr => by
    simp only [List.mem_cons] at hr
    rcases hr with hr | hr
    · injection hr with h1 hr; injection hr with hr; injection hr with _ hr
      exact .inl ⟨h1, hr⟩
    · exact .inr hr
  refine ⟨Nat.le_succ_of_le er.lo, fun r hr => ?_, fun r h1 h2 => ?_, fun i r hr => ?_, fun r h1 h2 => ?_, fun i i' r h1 h2 => ?_, fun i r r' h1 h2 => ?_, ?_, fun i r hr => ?_⟩
  · rw [hrow r (by have := er.lo; omega), er.old r hr]
  · rw [hrow r (by omega), er.free r (by omega) (by rw [← hlen]; exact h2)]
  · rcases hm i r hr with ⟨rfl, rfl⟩ | hr
    · exact ⟨er.lo, by omega, inl_iff.2 ⟨d, by simp, rfl⟩⟩
    · obtain ⟨g1, g2, g3⟩ := er.new i r hr
      exact ⟨g1, by omega, hin i g3⟩
  · by_cases hq : r = q
    · subst hq; exact ⟨d.i, by simp⟩
    · obtain ⟨i, hi⟩ := er.onto r h1 (by omega)
      exact ⟨i, by simp [hi]⟩
  · rcases hm i r h1 with ⟨rfl, rfl⟩ | h1 <;> rcases hm i' _ h2 with ⟨rfl, h3⟩ | h2
    · rfl
    · have := (er.new i' _ h2).2.1; omega
    · have := (er.new i _ h1).2.1; omega
    · exact er.uniq i i' r h1 h2
  · rcases hm i r h1 with ⟨rfl, rfl⟩ | g1 <;> rcases hm _ r' h2 with ⟨h3, rfl⟩ | g2
    · rfl
    · have := (er.new _ r' g2).2.2; rw [hi] at this; cases this
    · have := (er.new _ r g1).2.2; rw [h3, hi] at this; cases this
    · exact er.one i r r' g1 g2
  · have := er.cnt; simp [List.filter_append, hk]; omega
  · simp only [List.mem_cons] at hr
    rcases hr with hr | hr
    · injection hr with _ hr; injection hr with hr; injection hr with hr _; cases hr
    · exact hin i (er.kept i r hr)
end
end Go.PI
namespace Go.PI
section
variable {T : Pg} {C : Cx} {N : Nat} {ops : Array Oper} {p : Plan} {S S' : Nat → Bool} {ρ0 : Regs} {d : DOp} {h h' h0 : H} {k : Out → Bool}
theorem setRow_dead {q : Nat} (hq : ∀ r, q ≤ r → r < h.rows.length → h.rows[r]? = some .dead) : setRow h q .dead = h := by
  cases h with
  | mk rows =>
    simp only [PI.setRow]
    congr 1
    refine List.ext_getElem? fun r => ?_
    by_cases he : q = r
    · subst he
      by_cases hl : q < rows.length
      · rw [List.getElem?_set_self hl]; exact (hq q (Nat.le_refl _) hl).symm
      · rw [List.getElem?_eq_none (by simp; omega), List.getElem?_eq_none (by omega)]
    · rw [List.getElem?_set_ne he]
theorem isA_false_of {d : DOp} {x : OK} (hk : d.kd = x) (hx : x.isA = false) : d.kd.isA = false := by rw [hk]; exact hx
theorem mask_sub {b : Nat} {ms : Ms} : ∀ r po, ({ rows := maskRow h.rows (masked b true ms) } : H).rows[r]? = some po → po ≠ .dead → h.rows[r]? = some po ∧ r ∉ masked b true ms := by
  intro r po h1 h2
  simp only at h1
  rw [maskRow_get] at h1
  split at h1
  · injection h1 with h1; exact absurd h1.symm h2
  · rename_i hn
    have hlt := (List.getElem?_eq_some_iff.1 h1).1
    exact ⟨h1, fun hm => hn ⟨hm, hlt⟩⟩
/-- A load looks at one row. -/
theorem load_at {ρ : Regs} {t : TypeId} {x : Operand} {v : PV} (hs : opR T ρ h (.load t x) = some v) :
    (∀ r, hides ρ (.load t x) = some r → r < h.rows.length ∧ h.rows[r]? ≠ some .dead) ∧ ∀ h' : H, (∀ r, hides ρ (.load t x) = some r → h'.rows[r]? = h.rows[r]?) → opR T ρ h' (.load t x) = some v := by
  simp only [opR] at hs ⊢
  simp only [hides]
  split at hs
  · rename_i ti cs ht hm
    obtain ⟨q, hq, hm⟩ := Option.bind_eq_some_iff.1 hm
    rw [hq, ht]
    cases q <;> simp only [memAt] at hm <;> (try (cases hm; done))
    · rename_i r off
      split at hm
      · rename_i cs' hr
        injection hm with hm; subst hm
        refine ⟨fun r' hr' => ?_, fun h' hh => ?_⟩
        · simp only [Option.some.injEq] at hr'
          subst hr'
          exact ⟨(List.getElem?_eq_some_iff.1 hr).1, by rw [hr]; simp⟩
        · simp only [Option.bind_some, memAt, hh r rfl, hr]
          exact hs
      · cases hm
    · injection hm with hm; subst hm
      refine ⟨fun r' hr' => by simp at hr', fun h' hh => ?_⟩
      simp only [Option.bind_some, memAt]
      exact hs
  · cases hs
theorem draw_ps (ok : Ok T C.me ops p) (hw : C.nt ≤ wide) : ∀ (l : List DOp) (n : Nat) (done : List DOp) (val : Nat → PV) (ρ : Regs) (q : Nat) (ms : Ms) (h : H), p.fst = done ++ l → n ≤ N → h.rows.length = h0.rows.length + p.na →
    run T n C (.draw ops l p.late ρ q ms) h k = true → PS T C N ops ρ0 (fun _ => false) done val ρ h ms → ER h0 h q ms done →
    ∃ n' val' ρ' q' ms' h', n' ≤ N ∧ h'.rows.length = h0.rows.length + p.na ∧ run T n' C (.tail ops p.late ρ' ms') h' k = true ∧ PS T C N ops ρ0 (fun _ => false) p.fst val' ρ' h' ms' ∧ ER h0 h' q' ms' p.fst
  | _, 0, _, _, _, _, _, _, _, _, _, hr, _, _ => by simp only [run] at hr; cases hr
  | [], n + 1, done, val, ρ, q, ms, h, hl, hn, hlen, hr, ps, er => by
    simp only [run] at hr
    rw [List.append_nil] at hl
    subst hl
    exact ⟨n, val, ρ, q, ms, h, by omega, hlen, hr, ps, er⟩
  | d :: l, n + 1, done, val, ρ, q, ms, h, hl, hn, hlen, hr, ps, er => by
    have hl' : p.fst ++ p.late = done ++ d :: (l ++ p.late) := by rw [hl]; simp
    obtain ⟨hd, hdb, hdi⟩ := ok.next hl'
    have hsaw := saw_only ok hl' ps.regs
    have hl2 : p.fst = (done ++ [d]) ++ l := by rw [hl]; simp
    have hqlt : d.kd.isA = true → q < h.rows.length := fun hA => by
      have := er.cnt
      rw [hlen, ok.na, hl]
      simp [List.filter_append, hA]
      omega
    have hx : ∀ q, (d.i, some (true, q)) ∉ ms := fun q hm => by rw [(er.new _ _ hm).2.2] at hdi; cases hdi
    have hne : ∀ e ∈ done, d.i ≠ e.i := fun e he hi => by
      have : inl done d.i = true := inl_iff.2 ⟨e, he, hi.symm⟩
      rw [this] at hdi; cases hdi
    have hmsq : ∀ i r, (i, some (true, r)) ∈ ms → r < q := fun i r hr => (er.new i r hr).2.1
    have hnew : ∀ {ms' : Ms} {h' : H} {v : PV}, Did T C N ops d (only ρ d.ns) v h' ms' → (false = false → ∃ ρo, Saw ops ρ0 val d ρo ∧ Did T C N ops d ρo v h' ms') := fun hd _ => ⟨_, hsaw, hd⟩
    simp only [run] at hr
    split at hr
    · cases hr
    · rename_i hwt
      split at hr
      · rename_i ρ' hp
        obtain ⟨ps', _⟩ := ps.put (S' := fun _ => false) ok hw hl' hp (fun e he _ => ⟨rfl, fun ρo hd => hd⟩) (hnew (.skip hx hwt rfl))
        exact draw_ps ok hw l n _ _ _ _ _ _ hl2 (by omega) hlen hr ps' er.next
      · cases hr
    · rename_i hwt
      split at hr
      · rename_i hk
        split at hr
        · rename_i v hv
          split at hr
          · rename_i ρ' hp
            obtain ⟨ps', _⟩ := ps.put (S' := fun _ => false) ok hw hl' hp (fun e he _ => ⟨rfl, fun ρo hd => hd⟩) (hnew (.neu hx hwt hk hv))
            exact draw_ps ok hw l n _ _ _ _ _ _ hl2 (by omega) hlen hr ps' er.next
          · cases hr
        · cases hr
      · rename_i hk
        split at hr
        · rename_i v po hv
          split at hr
          · rename_i ρ' hp
            have hA : d.kd.isA = true := by rw [hk]; rfl
            obtain ⟨ps', _⟩ := ps.put (S' := fun _ => false) (h' := setRow h q po) (ms' := (d.i, some (true, q)) :: ms) ok hw hl' hp (fun e he _ => ⟨rfl, fun ρo hd => hd.new_row er.free hmsq (hne e he)⟩) (hnew (.new q po hwt hk hv (by simp) (by
              simp only [PI.setRow]; rw [List.getElem?_set_self (hqlt hA)])))
            refine draw_ps ok hw l n _ _ _ _ _ _ hl2 (by omega) (by simp only [PI.setRow, List.length_set]; exact hlen) hr ps' (er.make hA hdi (by simp [PI.setRow]) fun r hr => ?_)
            simp only [PI.setRow]; rw [List.getElem?_set_ne (Ne.symm hr)]
          · cases hr
        · cases hr
      · rename_i hk
        have hA := isA_false_of hk (rfl : OK.r.isA = false)
        split at hr
        · rename_i hkc
          split at hr
          · rename_i f args ats hop
            split at hr
            · rename_i vs hvs
              obtain ⟨r, h1, h2⟩ := run_det n { C with det := true } _ _ _ rfl hr
              cases n with
              | zero =>
                have := h2 (fun _ => true)
                simp only [run] at this
                cases this
              | succ m =>
                split at h1
                · rename_i ρ' hp
                  have hkd := (ok.mem d hd).2.2
                  have hpure : pureV T C.me (.fn f [] []) = true := by
                    rw [hk] at hkd
                    unfold does at hkd
                    rw [hkc, hop] at hkd
                    simp only at hkd
                    cases hpv : pureV T C.me (.fn f [] []) with
                    | true => rfl
                    | false => rw [hpv] at hkd; simp at hkd
                  have hf : fast d = true := by simp only [fast, hk, hop]
                  obtain ⟨ps', _⟩ := ps.put (S' := fun _ => false) ok hw hl' hp (fun e he _ => ⟨rfl, fun ρo hd => hd⟩) (hnew (.call hx _ m f args ats vs r hwt hf hop hvs hpure (by omega) h2 rfl (maskRow_len _ _) mask_sub))
                  exact draw_ps ok hw l (m + 1) _ _ _ _ _ _ hl2 (by omega) hlen h1 ps' er.next
                · cases h1
            · cases hr
          · cases hr
        · split at hr
          · rename_i v hv
            split at hr
            · rename_i ρ' hp
              cases hf : fast d with
              | true =>
                have hh : hides (only ρ d.ns) d.o.op = none := by
                  cases hop : d.o.op <;> simp only [hides]
                  simp [fast, hk, hop] at hf
                rw [hh] at hr
                obtain ⟨ps', _⟩ := ps.put (S' := fun _ => false) ok hw hl' hp (fun e he _ => ⟨rfl, fun ρo hd => hd⟩) (hnew (.read hx _ hwt hk hf hv (maskRow_len _ _) mask_sub))
                exact draw_ps ok hw l n _ _ _ _ _ _ hl2 (by omega) hlen hr ps' er.next
              | false =>
                have hop : ∃ t x, d.o.op = .load t x := by
                  cases hop : d.o.op <;> first | exact ⟨_, _, rfl⟩ | (simp [fast, hk, hop] at hf)
                obtain ⟨t, x, hop⟩ := hop
                rw [hop] at hv hr
                obtain ⟨g1, g2⟩ := load_at hv
                have hno : ∀ r, (d.i, some (false, r)) ∉ ms := fun r hr => by rw [er.kept _ _ hr] at hdi; cases hdi
                cases hh : hides (only ρ d.ns) (.load t x) with
                | none =>
                  rw [hh] at hr
                  obtain ⟨ps', _⟩ := ps.put (S' := fun _ => false) ok hw hl' hp (fun e he _ => ⟨rfl, fun ρo hd => hd⟩) (hnew (.load hx hwt hk (fun r hr => absurd hr (hno r)) (fun h' _ => by
                    rw [hop]; exact g2 h' fun r hr => by rw [hh] at hr; cases hr)))
                  exact draw_ps ok hw l n _ _ _ _ _ _ hl2 (by omega) hlen hr ps' er.next
                | some r0 =>
                  rw [hh] at hr
                  obtain ⟨g3, g4⟩ := g1 r0 hh
                  have g5 : r0 ∉ masked d.b true ms ∧ r0 < h.rows.length ∧ h.rows[r0]? ≠ some .dead ∧ (maskRow h.rows (masked d.b true ms))[r0]? = h.rows[r0]? := by
                    rw [maskRow_len] at g3
                    rw [maskRow_get] at g4 ⊢
                    split at g4
                    · exact absurd rfl g4
                    · rename_i hn
                      rw [if_neg hn]
                      exact ⟨fun hm => hn ⟨hm, g3⟩, g3, g4, rfl⟩
                  have g6 : ∀ r, (d.i, some (false, r)) ∈ (d.i, some (false, r0)) :: ms → r = r0 := fun r hr => by
                    simp only [List.mem_cons] at hr
                    rcases hr with hr | hr
                    · injection hr with _ hr; injection hr with hr; injection hr with _ hr
                    · exact absurd hr (hno r)
                  have g7 : r0 ∉ masked d.b true ((d.i, some (false, r0)) :: ms) := by
                    have := g5.1
                    rw [mem_masked] at this ⊢
                    rintro ⟨j, h1, h2⟩
                    simp only [List.mem_cons] at h1
                    rcases h1 with h1 | h1
                    · injection h1 with h1 h3; injection h3 with h3; injection h3 with h3 h4; cases h3
                    · exact this ⟨j, h1, h2⟩
                  obtain ⟨ps', _⟩ := ps.put (S' := fun _ => false) (ms' := (d.i, some (false, r0)) :: ms) ok hw hl' hp (fun e he _ => ⟨rfl, fun ρo hd => hd.keep (hne e he)⟩) (hnew (.load (fun q hm => hx q (by simpa using hm)) hwt hk (fun r hr => by
                      rw [g6 r hr]; exact ⟨g7, g5.2.1, g5.2.2.1⟩) (fun h' hh' => by
                      rw [hop]
                      refine g2 h' fun r hr => ?_
                      rw [hh] at hr; injection hr with hr; subst hr
                      rw [hh' r0 (by simp)]; exact g5.2.2.2.symm)))
                  exact draw_ps ok hw l n _ _ _ _ _ _ hl2 (by omega) hlen hr ps' er.keep
            · cases hr
          · cases hr
      · cases hr
/-- PI goes on through neutral ones. -/
theorem advance (ok : Ok T C.me ops p) (hw : C.nt ≤ wide) {ms : Ms} : ∀ (rest : List DOp) (n : Nat) (done : List DOp) (val : Nat → PV) (ρ : Regs), (∀ i q, (i, some (true, q)) ∈ ms → inl done i = true) → p.fst ++ p.late = done ++ rest → n ≤ N → run T n C (.tail ops rest ρ ms) h k = true → PS T C N ops ρ0 S done val ρ h ms →
    ∃ n' mid rest' val' ρ', rest = mid ++ rest' ∧ n' ≤ N ∧ run T n' C (.tail ops rest' ρ' ms) h k = true ∧ PS T C N ops ρ0 S (done ++ mid) val' ρ' h ms ∧ (∀ e ∈ mid, e.kd.isN = true) ∧ (∀ j, inl done j = true → val' j = val j) ∧
      (rest' = [] ∨ ∃ d r, rest' = d :: r ∧ d.kd.isN = false)
  | [], n, done, val, ρ, _, hl, hn, hr, ps => ⟨n, [], [], val, ρ, rfl, hn, hr, by rw [List.append_nil]; exact ps, fun e he => by simp at he, fun _ _ => rfl, .inl rfl⟩
  | d :: rest, 0, done, val, ρ, _, hl, hn, hr, ps => by simp only [run] at hr; cases hr
  | d :: rest, n + 1, done, val, ρ, hent, hl, hn, hr, ps => by
    have hx : ∀ q, (d.i, some (true, q)) ∉ ms := fun q hm => by
      have h1 := hent _ _ hm
      rw [(ok.next hl).2.2] at h1; cases h1
    cases hk : d.kd.isN with
    | false => exact ⟨n + 1, [], d :: rest, val, ρ, rfl, hn, hr, by rw [List.append_nil]; exact ps, fun e he => by simp at he, fun _ _ => rfl, .inr ⟨d, rest, rfl, hk⟩⟩
    | true =>
      have hkn : d.kd = .n := by
        cases hd : d.kd <;> rw [hd] at hk <;> first | rfl | cases hk
      have hsaw := saw_only ok hl ps.regs
      have key : ∀ {v ρ'}, putD C ρ d.o.dst v = some ρ' → run T n C (.tail ops rest ρ' ms) h k = true → Did T C N ops d (only ρ d.ns) v h ms → ∃ n' mid rest' val' ρ', d :: rest = mid ++ rest' ∧ n' ≤ N ∧ run T n' C (.tail ops rest' ρ' ms) h k = true ∧ PS T C N ops ρ0 S (done ++ mid) val' ρ' h ms ∧ (∀ e ∈ mid, e.kd.isN = true) ∧ (∀ j, inl done j = true → val' j = val j) ∧
          (rest' = [] ∨ ∃ d r, rest' = d :: r ∧ d.kd.isN = false) := by
        intro v ρ' hp hr' hdid
        obtain ⟨ps', hv'⟩ := ps.put (S' := S) ok hw hl hp (fun e he hs => ⟨hs, fun ρo hd => hd⟩) (fun _ => ⟨_, hsaw, hdid⟩)
        obtain ⟨n', mid, rest', val', ρ2, g1, g2, g3, g4, g5, g6, g7⟩ := advance ok hw rest n (done ++ [d]) _ ρ' (fun i q hm => by obtain ⟨e, he, hi⟩ := inl_iff.1 (hent i q hm); exact inl_iff.2 ⟨e, by simp [he], hi⟩) (by rw [hl]; simp) (by omega) hr' ps'
        refine ⟨n', d :: mid, rest', val', ρ2, by rw [g1]; rfl, g2, g3, by simpa using g4, fun e he => ?_, fun j hj => ?_, g7⟩
        · simp only [List.mem_cons] at he
          rcases he with rfl | he
          · exact hk
          · exact g5 e he
        · rw [g6 j (by obtain ⟨e, he, hi⟩ := inl_iff.1 hj; exact inl_iff.2 ⟨e, by simp [he], hi⟩)]
          exact hv' j hj
      simp only [run] at hr
      split at hr
      · cases hr
      · rename_i hwt
        split at hr
        · rename_i ρ' hp
          exact key hp hr (.skip hx hwt rfl)
        · cases hr
      · rename_i hwt
        rw [hkn] at hr
        simp only at hr
        split at hr
        · rename_i v hv
          split at hr
          · rename_i ρ' hp
            exact key hp hr (.neu hx hwt hkn hv)
          · cases hr
        · cases hr
end
end Go.PI
namespace Go.PI
section
variable {W W' W'' W0 : Wd} {w w' w'' w0 : World} {C C' : Cx} {h h' h0 : H} {m hl : List Nat}
theorem rowsame (hN : h.rows.length = W.N) (g : Goes C' { rows := maskRow h.rows m } W w h' W' w') {r : Nat} (hr : r < h.rows.length) (hm : r ∈ m ∨ C'.no r = true) : (unmask h.rows h'.rows m)[r]? = h.rows[r]? := by
  have h1 : h.rows.length ≤ h'.rows.length := by rw [g.rel.n, hN]; exact g.ext.n
  rw [unmask_get]
  by_cases hmm : r ∈ m
  · rw [if_pos ⟨hmm, by omega⟩, List.getD_eq_getElem?_getD, List.getElem?_eq_getElem hr]; rfl
  · rw [if_neg (fun h => hmm h.1), (g.kept r (by omega) (hm.resolve_left hmm)).1]
    simp only
    rw [maskRow_get, if_neg (fun h => hmm h.1)]
/-- A late operation, its hidden rows put back. -/
theorem late_mem (hD : HRel W w { rows := maskRow h.rows hl }) (hsub : ∀ r, r ∈ hl → r ∈ m) (hC : ∀ r, C.no r = true → C'.no r = true) (hm : ∀ r, r ∈ m → C'.no r = true) (g : Goes C' { rows := maskRow h.rows m } W w h' W' w') :
    Goes C { rows := maskRow h.rows hl } W w { rows := maskRow (unmask h.rows h'.rows m) hl } W' w' := by
  have hN : h.rows.length = W.N := by have := hD.n; simpa [maskRow_len] using this
  have hlen : h.rows.length ≤ h'.rows.length := by rw [g.rel.n, hN]; exact g.ext.n
  -- the row of the new memory
  have hrow : ∀ r, r ∉ m → (unmask h.rows h'.rows m)[r]? = h'.rows[r]? := fun r hr => by rw [unmask_get, if_neg (fun h => hr h.1)]
  have hrow2 : ∀ r, r ∉ hl → (maskRow (unmask h.rows h'.rows m) hl)[r]? = (unmask h.rows h'.rows m)[r]? := fun r hr => by rw [maskRow_get, if_neg (fun h => hr h.1)]
  have hrow3 : ∀ r, r ∈ hl → r < h.rows.length → (maskRow (unmask h.rows h'.rows m) hl)[r]? = some .dead := fun r hr hlt => by rw [maskRow_get, if_pos ⟨hr, by rw [unmask_len]; omega⟩]
  have hold : ∀ r, r ∉ hl → (maskRow h.rows hl)[r]? = h.rows[r]? := fun r hr => by rw [maskRow_get, if_neg (fun h => hr h.1)]
  have hold3 : ∀ r, r ∈ hl → r < h.rows.length → (maskRow h.rows hl)[r]? = some .dead := fun r hr hlt => by rw [maskRow_get, if_pos ⟨hr, hlt⟩]
  have holdm : ∀ r, r ∉ m → (maskRow h.rows m)[r]? = h.rows[r]? := fun r hr => by rw [maskRow_get, if_neg (fun h => hr h.1)]
  have hdm : ∀ r, r ∈ m → ¬ alive { rows := maskRow h.rows m } r := fun r hr ⟨po, h1, h2⟩ => by
    simp only at h1
    rw [maskRow_get] at h1
    split at h1
    · injection h1 with h1; exact h2 h1.symm
    · rename_i hn
      exact hn ⟨hr, (List.getElem?_eq_some_iff.1 h1).1⟩
  have hal : ∀ r, alive { rows := maskRow h.rows m } r → alive { rows := maskRow h.rows hl } r := fun r ha => by
    have hnm : r ∉ m := fun hr => hdm r hr ha
    obtain ⟨po, h1, h2⟩ := ha
    refine ⟨po, ?_, h2⟩
    simp only at h1 ⊢
    rw [hold r (fun hr => hnm (hsub r hr))]
    rwa [holdm r hnm] at h1
  have hlt : ∀ r po, h.rows[r]? = some po → r < h.rows.length := fun r po h => (List.getElem?_eq_some_iff.1 h).1
  refine ⟨⟨g.ext.size, fun b hb hA => g.ext.same b hb fun r x hx ha hno => hA r x hx (hal r ha) ?_, g.ext.n, g.ext.up, g.ext.down, g.ext.dead, g.ext.off, fun r x hx => ?_, g.ext.os, g.ext.tape, g.ext.output⟩, ⟨?_, fun r po h1 h2 => ?_, g.rel.lt, g.rel.inj, fun r hd => ?_, g.rel.offlt, g.rel.offno⟩, fun r hr ha => ?_, fun r hr hno => ?_⟩
  · cases hc : C.no r with
    | false => rfl
    | true => rw [hC r hc] at hno; cases hno
  · rcases g.ext.new r x hx with h1 | ⟨r', x', h1, h2, h3⟩
    · exact .inl h1
    · refine .inr ⟨r', x', h1, h2, h3.imp id fun ⟨h4, h5⟩ => ⟨hal r' h4, ?_⟩⟩
      cases hc : C.no r' with
      | false => rfl
      | true => rw [hC r' hc] at h5; cases h5
  · simp only [maskRow_len, unmask_len]; exact g.rel.n
  · simp only at h1
    by_cases hhl : r ∈ hl
    · rw [maskRow_get] at h1
      split at h1
      · injection h1 with h1; exact absurd h1.symm h2
      · rename_i hn
        exact absurd ⟨hhl, (List.getElem?_eq_some_iff.1 h1).1⟩ hn
    · rw [hrow2 r hhl] at h1
      by_cases hmm : r ∈ m
      · rcases Nat.lt_or_ge r h.rows.length with hr | hr
        · rw [rowsame hN g hr (.inl hmm)] at h1
          obtain ⟨x, hx, hp⟩ := hD.rows r po (by simp only; rw [hold r hhl]; exact h1) h2
          refine ⟨x, ?_, hp.mon g.ext.mon ?_⟩
          · rcases g.ext.up r (by omega) x hx with h3 | h3
            · exact h3
            · have h4 := (hD.dead r ((g.kept r (by omega) (hm r hmm)).2 h3)).2
              rw [h4] at hx; cases hx
          · refine g.ext.same x.b (hD.lt r x hx).2 fun r' x' hx' ha hno he => ?_
            have := hD.inj r' r x' x hx' hx he
            subst this
            exact hdm r' hmm ha
        · rw [unmask_get] at h1
          split at h1
          · rename_i hc
            rw [List.getD_eq_getElem?_getD, List.getElem?_eq_none hr] at h1
            injection h1 with h1; exact absurd h1.symm h2
          · exact g.rel.rows r po h1 h2
      · rw [hrow r hmm] at h1
        exact g.rel.rows r po h1 h2
  · obtain ⟨h1, h2⟩ := g.rel.dead r hd
    refine ⟨?_, h2⟩
    simp only
    by_cases hhl : r ∈ hl
    · rw [maskRow_get, if_pos ⟨hhl, by rw [unmask_len]; exact (List.getElem?_eq_some_iff.1 h1).1⟩]
    · rw [hrow2 r hhl]
      by_cases hmm : r ∈ m
      · rw [unmask_get, if_pos ⟨hmm, (List.getElem?_eq_some_iff.1 h1).1⟩]
        rcases Nat.lt_or_ge r h.rows.length with hr | hr
        · have h3 := (hD.dead r ((g.kept r (by omega) (hm r hmm)).2 hd)).1
          simp only at h3
          rw [hold r hhl] at h3
          rw [List.getD_eq_getElem?_getD, h3]; rfl
        · rw [List.getD_eq_getElem?_getD, List.getElem?_eq_none hr]; rfl
      · rw [hrow r hmm]; exact h1
  · obtain ⟨po, h1, h2⟩ := ha
    simp only at h1
    by_cases hhl : r ∈ hl
    · rw [hrow3 r hhl (by omega)] at h1
      injection h1 with h1; exact absurd h1.symm h2
    · rw [hrow2 r hhl] at h1
      by_cases hmm : r ∈ m
      · rw [rowsame hN g (by omega) (.inl hmm)] at h1
        exact ⟨po, by simp only; rw [hold r hhl]; exact h1, h2⟩
      · rw [hrow r hmm] at h1
        exact hal r (g.live r hr ⟨po, h1, h2⟩)
  · refine ⟨?_, (g.kept r hr (hC r hno)).2⟩
    simp only
    by_cases hhl : r ∈ hl
    · rw [hrow3 r hhl (by omega), hold3 r hhl (by omega)]
    · rw [hrow2 r hhl, hold r hhl]
      exact rowsame hN g (by omega) (.inr (hC r hno))
end
end Go.PI
namespace Go.PI
/-- Where the machine and PI stand in a drawn region: S are listed. -/
structure Mid (T : Pg) (C : Cx) (N : Nat) (ops : Array Oper) (p : Plan) (ρ0 : Regs) (h0 : H) (W0 : Wd) (w0 : World) (a0 : Act) (k : Out → Bool) (S : Nat → Bool) (a : Act) (w : World)
    (n : Nat) (ld rest : List DOp) (val : Nat → PV) (ρ : Regs) (ms : Ms) (h : H) (W : Wd) : Prop where
  split : p.late = ld ++ rest
  fuel : n ≤ N
  run : run T n C (.tail ops rest ρ ms) h k = true
  ps : PS T C N ops ρ0 S (p.fst ++ ld) val ρ h ms
  head : rest = [] ∨ ∃ d r, rest = d :: r ∧ d.kd.isN = false ∧ S d.i = false
  nn : ∀ d ∈ ld, d.kd.isN = false → S d.i = true
  down : Down p S
  go : Goes C h0 W0 w0 { rows := maskRow h.rows (hid S ms) } W w
  rows : ∀ i q, (i, some (true, q)) ∈ ms → S i = false → W.β q = none ∧ ¬ W.dead q ∧ q < W.N
  ent : ∀ i q, (i, some (true, q)) ∈ ms → inl p.fst i = true ∧ h0.rows.length ≤ q
  uniq : ∀ i i' r, (i, some (true, r)) ∈ ms → (i', some (true, r)) ∈ ms → i = i'
  one : ∀ i r r', (i, some (true, r)) ∈ ms → (i, some (true, r')) ∈ ms → r = r'
  regs : ∀ t q, cur ops S val ρ0 t = some q → ∃ v, a.tmps[t]? = some v ∧ Rel W w q v
  size : a.tmps.size = C.nt
  defers : a.defers = a0.defers
section
variable {P : Program} {T : Pg} {C : Cx} {N : Nat} {ops : Array Oper} {p : Plan} {ρ0 : Regs} {h0 : H} {W0 : Wd} {w0 : World} {a0 : Act} {k : Out → Bool} {S : Nat → Bool} {a : Act} {w w' : World} {n : Nat} {ld rest : List DOp} {val : Nat → PV} {ρ : Regs} {ms : Ms} {h : H} {W W' : Wd} {d : DOp}
theorem maskRow_congr {rs : List PO} {m m' : List Nat} (h : ∀ r, r ∈ m ↔ r ∈ m') : maskRow rs m = maskRow rs m' :=
  List.ext_getElem? fun r => by
    rw [maskRow_get, maskRow_get]
    by_cases hr : r ∈ m ∧ r < rs.length
    · rw [if_pos hr, if_pos ⟨(h r).1 hr.1, hr.2⟩]
    · rw [if_neg hr, if_neg (fun e => hr ⟨(h r).2 e.1, e.2⟩)]
theorem hid_same {i : Nat} (hx : ∀ q, (i, some (true, q)) ∉ ms) (r : Nat) : r ∈ hid (addS S i) ms ↔ r ∈ hid S ms := by
  rw [mem_hid, mem_hid]
  constructor
  · rintro ⟨j, h1, h2⟩
    refine ⟨j, h1, ?_⟩
    rw [addS_ne (by rintro rfl; exact hx _ h1)] at h2
    exact h2
  · rintro ⟨j, h1, h2⟩
    refine ⟨j, h1, ?_⟩
    rw [addS_ne (by rintro rfl; exact hx _ h1)]
    exact h2
theorem put_get {o : Option Tmp} {u : Value} {m : Nat} (hsz : a.tmps.size = m) (hd : ∀ t, o = some t → t < m) (t : Nat) : (a.put o u).tmps[t]? = if o = some t then some u else a.tmps[t]? := by
  cases o with
  | none => simp [Act.put]
  | some x =>
    simp only [Act.put, Option.some.injEq]
    rw [Array.getElem?_setIfInBounds]
    have := hd x rfl
    by_cases he : x = t
    · subst he; simp [hsz, this]
    · simp [he]
theorem put_size {o : Option Tmp} {u : Value} : (a.put o u).tmps.size = a.tmps.size := by cases o <;> simp [Act.put]
/-- Whom the machine has listed, PI has done. -/
theorem Mid.sub (ok : Ok T C.me ops p) (m : Mid T C N ops p ρ0 h0 W0 w0 a0 k S a w n ld rest val ρ ms h W) {e : DOp} (he : e ∈ rest) : S e.i = false := by
  rcases m.head with h1 | ⟨d, r, rfl, hk, hs⟩
  · subst h1; simp at he
  · simp only [List.mem_cons] at he
    rcases he with rfl | he
    · exact hs
    · obtain ⟨l1, l2, rfl⟩ := List.append_of_mem he
      have h1 := (ok.late (ld ++ d :: l1) l2 e (by rw [m.split]; simp)).1 d (by simp) hk
      cases hse : S e.i with
      | false => rfl
      | true =>
        rw [m.down e (by rw [m.split]; simp) hse _ h1] at hs
        cases hs
theorem Mid.ord (m : Mid T C N ops p ρ0 h0 W0 w0 a0 k S a w n ld rest val ρ ms h W) : p.fst ++ p.late = (p.fst ++ ld) ++ rest := by rw [m.split]; simp
theorem Mid.inlS (ok : Ok T C.me ops p) (m : Mid T C N ops p ρ0 h0 W0 w0 a0 k S a w n ld rest val ρ ms h W) {j : Nat} (hj : ∃ e ∈ p.fst ++ p.late, e.i = j) (hs : S j = true) : inl (p.fst ++ ld) j = true := by
  obtain ⟨e, he, rfl⟩ := hj
  rw [m.ord, List.mem_append] at he
  rcases he with he | he
  · exact inl_iff.2 ⟨e, he, rfl⟩
  · rw [m.sub ok he] at hs; cases hs
/-- The machine lists one that PI has done. -/
theorem Mid.list (ok : Ok T C.me ops p) (m : Mid T C N ops p ρ0 h0 W0 w0 a0 k S a w n ld rest val ρ ms h W) (hd : d ∈ p.fst ++ ld) (hS : S d.i = false) (hb : ∀ j, d.b.testBit j = true → S j = true) {u : Value}
    (hgo : Goes C h0 W0 w0 { rows := maskRow h.rows (hid (addS S d.i) ms) } W' w') (hmon : Mon W w W' w') (hrel : Rel W' w' (val d.i) u)
    (hrows : ∀ i q, (i, some (true, q)) ∈ ms → addS S d.i i = false → W'.β q = none ∧ ¬ W'.dead q ∧ q < W'.N) :
    Mid T C N ops p ρ0 h0 W0 w0 a0 k (addS S d.i) (a.put d.o.dst u) w' n ld rest val ρ ms h W' := by
  have hdm : d ∈ p.fst ++ p.late := by rw [m.ord]; simp only [List.mem_append] at hd ⊢; rcases hd with hd | hd <;> simp [hd]
  refine ⟨m.split, m.fuel, m.run, ⟨m.ps.regs, m.ps.dst, fun e he hs => m.ps.did e he ?_⟩, ?_, fun e he hk => addS_iff.2 (.inr (m.nn e he hk)), m.down.add ok hdm hb, hgo, hrows, m.ent, m.uniq, m.one, fun t q hq => ?_, by rw [put_size]; exact m.size, by rw [put_defers]; exact m.defers⟩
  · cases hse : S e.i with
    | false => rfl
    | true => rw [addS_iff.2 (.inr hse)] at hs; cases hs
  · rcases m.head with h1 | ⟨e, r, rfl, hk, hs⟩
    · exact .inl h1
    · refine .inr ⟨e, r, rfl, hk, ?_⟩
      rw [addS_ne]
      · exact hs
      · intro he
        have h1 := (ok.next m.ord).2.2
        rw [he, inl_iff.2 ⟨d, hd, rfl⟩] at h1; cases h1
  · rw [cur_put ok m.down hdm hb hS (v := val d.i) (fun _ _ => rfl) rfl] at hq
    rw [put_get m.size (m.ps.dst d hd)]
    split at hq
    · rename_i ht
      injection hq with hq; subst hq
      exact ⟨u, by rw [if_pos ht], hrel⟩
    · rename_i ht
      obtain ⟨v, h1, h2⟩ := m.regs t q hq
      exact ⟨v, by rw [if_neg ht]; exact h1, h2.mon hmon⟩
theorem Mid.regsRel (ok : Ok T C.me ops p) (hw : C.nt ≤ wide) (m : Mid T C N ops p ρ0 h0 W0 w0 a0 k S a w n ld rest val ρ ms h W) (hd : d ∈ p.fst ++ p.late) (hS : S d.i = false) (hb : ∀ j, d.b.testBit j = true → S j = true) {ρo : Regs} (hs : Saw ops ρ0 val d ρo) : RegsRel W w ρo a.tmps C.nt :=
  ⟨m.size, hw, fun t q hq => by
    obtain ⟨h1, h2⟩ := hs t q hq
    rw [← cur_at ok m.down hd hb hS (.inl h1)] at h2
    exact m.regs t q h2⟩
theorem Mon.rfl' : Mon W w W w := ⟨fun _ _ _ _ h _ => ⟨h, rfl⟩, Nat.le_refl _, fun _ _ _ h => .inl h, fun _ _ h => h⟩
/-- What the machine sees, when it comes to d: no more is hidden than from d. -/
theorem Mid.unhid (hb : ∀ j, d.b.testBit j = true → S j = true) {r : Nat} (hr : r ∈ hid S ms) : r ∈ masked d.b true ms := by
  rw [mem_hid] at hr
  obtain ⟨i, h1, h2⟩ := hr
  refine mem_masked.2 ⟨i, h1, ?_⟩
  cases hbi : d.b.testBit i with
  | false => rfl
  | true => rw [hb i hbi] at h2; cases h2
theorem Mid.seen (m : Mid T C N ops p ρ0 h0 W0 w0 a0 k S a w n ld rest val ρ ms h W) (hb : ∀ j, d.b.testBit j = true → S j = true) {hv : H} (hl : hv.rows.length = h.rows.length)
    (hs : ∀ r po, hv.rows[r]? = some po → po ≠ .dead → h.rows[r]? = some po ∧ r ∉ masked d.b true ms) : HRel W w hv := by
  have key : ∀ (r : Nat) (po : PO), hv.rows[r]? = some po → po ≠ .dead → (maskRow h.rows (hid S ms))[r]? = some po := fun r po h1 h2 => by
    obtain ⟨g1, g2⟩ := hs r po h1 h2
    rw [maskRow_get, if_neg (fun e => g2 (Mid.unhid hb e.1))]
    exact g1
  refine m.go.rel.fewer (by simp only [maskRow_len]; exact hl) key fun r hd => ?_
  have h1 := (m.go.rel.dead r hd).1
  have hlt : r < hv.rows.length := by
    have := (List.getElem?_eq_some_iff.1 h1).1
    simp only [maskRow_len] at this
    omega
  cases hq : hv.rows[r]? with
  | none => rw [List.getElem?_eq_none_iff] at hq; omega
  | some po =>
    by_cases hp : po = .dead
    · rw [hp]
    · have := key r po hq hp
      simp only at h1
      rw [h1] at this
      injection this with this; exact absurd this.symm hp
/-- The machine's step at one that PI has done. -/
theorem Mid.step_done (hE : Env P T) (hC : ∀ m, m < N → SimCode P T m) (ok : Ok T C.me ops p) (hw : C.nt ≤ wide) (h0n : h0.rows.length = W0.N) (m : Mid T C N ops p ρ0 h0 W0 w0 a0 k S a w n ld rest val ρ ms h W) (hd : d ∈ p.fst ++ ld) (hS : S d.i = false) (hb : ∀ j, d.b.testBit j = true → S j = true)
    {b : Frame} {K : List Item} {cs : List Frame} (is : List Nat) :
    ∃ u w' W', Steps P (lone (put b a (.inRegion ops (d.i :: is) :: K)) cs w) (lone (put b (a.put d.o.dst u) (.inRegion ops is :: K)) cs w') ∧ Mid T C N ops p ρ0 h0 W0 w0 a0 k (addS S d.i) (a.put d.o.dst u) w' n ld rest val ρ ms h W' := by
  have hdm : d ∈ p.fst ++ p.late := by rw [m.ord]; simp only [List.mem_append] at hd ⊢; rcases hd with hd | hd <;> simp [hd]
  have hi := (ok.mem d hdm).1
  obtain ⟨ρo, hsaw, hdid⟩ := m.ps.did d hd hS
  have hr := m.regsRel ok hw hdm hS hb hsaw
  -- the world is as it was, or has grown
  have grown : ∀ (hx : ∀ q, (d.i, some (true, q)) ∉ ms) {u : Value} {w' : World}, Grew w w' → Rel W w' (val d.i) u → Mid T C N ops p ρ0 h0 W0 w0 a0 k (addS S d.i) (a.put d.o.dst u) w' n ld rest val ρ ms h W := by
    intro hx u w' hg hrel
    have hge : Goes C { rows := maskRow h.rows (hid S ms) } W w { rows := maskRow h.rows (hid S ms) } W w' := Goes.grew m.go.rel hg
    have hg2 := m.go.ext
    refine m.list ok hd hS hb ?_ hge.ext.mon hrel fun i q h1 h2 => m.rows i q h1 ?_
    · rw [maskRow_congr (hid_same hx)]
      refine ⟨⟨Nat.le_trans hg2.size hg.size, fun b hb hA => (hg.same b (Nat.lt_of_lt_of_le hb hg2.size)).trans (hg2.same b hb hA), hg2.n, hg2.up, hg2.down, hg2.dead, hg2.off, hg2.new, hg.os.trans hg2.os, hg.tape.trans hg2.tape, hg.output.trans hg2.output⟩, hge.rel, m.go.live, m.go.kept⟩
    · rw [addS_ne (by rintro rfl; exact hx _ h1)] at h2
      exact h2
  have hval : ∀ {x : PV}, Yields P W w a d.o x → (∀ c, d.o.op ≠ .defer c) → wantedP ops ρo d.o = some true → (∀ q, (d.i, some (true, q)) ∉ ms) → x = val d.i →
      ∃ u w' W', Steps P (lone (put b a (.inRegion ops (d.i :: is) :: K)) cs w) (lone (put b (a.put d.o.dst u) (.inRegion ops is :: K)) cs w') ∧ Mid T C N ops p ρ0 h0 W0 w0 a0 k (addS S d.i) (a.put d.o.dst u) w' n ld rest val ρ ms h W' := by
    intro x hy hnd hwt hx he
    obtain ⟨u, h1, h2⟩ := hy
    exact ⟨u, w, W, .one (s_op hi (wanted_rel hr hwt) hnd h1 (.inl rfl)), grown hx (Grew.refl w) (he ▸ h2)⟩
  have hndN : ∀ {x : PV} {ρ1 : Regs}, opN T ρ1 d.o.op = some x → ∀ c, d.o.op ≠ .defer c := fun hx c hc => by rw [hc] at hx; simp [opN] at hx
  have hndR : ∀ {x : PV} {ρ1 : Regs} {h1 : H}, opR T ρ1 h1 d.o.op = some x → ∀ c, d.o.op ≠ .defer c := fun hx c hc => by rw [hc] at hx; simp [opR] at hx
  cases hdid with
  | skip hx hwt hv =>
    have hstep := s_op_skip (P := P) (b := b) (a := a) (k := K) (cs := cs) (w := w) (ops := ops) (i := d.i) (rest := is) (by rw [hi]; simp [wanted_rel hr hwt])
    rw [hi] at hstep
    simp only [Option.bind_some] at hstep
    exact ⟨undef, w, W, .one hstep, grown hx (Grew.refl w) (by rw [hv]; exact rel_undef)⟩
  | neu hx hwt hk hv => exact hval (opN_sound hE.ty hr hv) (hndN hv) hwt hx rfl
  | load hx hwt hk hn hs =>
    have h1 := hs { rows := maskRow h.rows (hid S ms) } fun r hr => by
      simp only
      rw [maskRow_get, if_neg (fun e => (hn r hr).1 (Mid.unhid hb e.1))]
    exact hval (opR_sound hE.ty m.go.rel hr h1) (hndR h1) hwt hx rfl
  | read hx hv hwt hk hf ho hl hs => exact hval (opR_sound hE.ty (m.seen hb hl hs) hr ho) (hndR ho) hwt hx rfl
  | call hx hv n' f args ats vs r hwt hf hop hvs hp hn hrun hrv hl hs =>
    have hargs := evl_rel hr hvs
    have hk : PI.run T (n' + 1) { C with det := true } (.call (.fn f [] []) vs) hv (fun o => @decide (o = r) (Classical.propDecidable _)) = true := by
      rw [hrun]; exact @decide_eq_true _ (Classical.propDecidable _) rfl
    obtain ⟨nx, fr, g1, g2, g3⟩ := pure_sim (C := { C with det := true }) hE (hC n' hn) hp hk (m.seen hb hl hs) hargs
    obtain ⟨o, hko, w', v', k1, k2, k3⟩ := g3 (put b a (.inRegion ops (d.i :: is) :: K)) cs
    have ho : o = r := @of_decide_eq_true _ (Classical.propDecidable _) hko
    subst ho
    have hx' := exec_call (a := a) hop
    have harr : (args.toList.map a.eval).toArray = args.map a.eval := by
      apply Array.ext'; simp
    rw [harr] at g1
    have hev : a.eval (.func f) = .func (.func f) #[] #[] := rfl
    rw [← hev, ← hx'] at g1
    have hstep := s_op_call (b := b) (k := K) (cs := cs) (rest := is) hi (wanted_rel hr hwt) (fun c => by rw [hop]; simp) g1 g2
    have hf := put_finish (b := b) (a := a) (ops := ops) (k := K) d.i is v'
    rw [hi] at hf
    simp only [Option.bind_some] at hf
    rw [hf] at k3
    exact ⟨v', w', W, .head hstep k3, grown hx k1 (by rw [hrv]; exact k2)⟩
  | new q po hwt hk hv hm hq =>
    obtain ⟨u, ob, x, h1, h2, h3⟩ := opA_sound hE.ty hr hv
    obtain ⟨g1, g2, g3⟩ := m.rows _ _ hm hS
    obtain ⟨g4, g5⟩ := m.ent _ _ hm
    let W' : Wd := ⟨fun r => if r = q then some x else W.β r, W.N, W.dead, W.off⟩
    let w' : World := { w with heap := w.heap.push ob }
    have hgr : Grew w w' := Grew.push w ob
    have hβ : ∀ r, r ≠ q → W'.β r = W.β r := fun r hr => if_neg hr
    have hβq : W'.β q = some x := if_pos rfl
    have hmon : Mon W w W' w' := by
      refine ⟨fun c vs e z hc _ => ⟨⟨Nat.lt_of_lt_of_le hc.1 hgr.size, fun r y hy => ?_, hc.2.2⟩, hgr.same c hc.1⟩, Nat.le_refl _, fun r hr y hy => .inl ?_, fun r _ h => h⟩
      · by_cases hrq : r = q
        · subst hrq
          rw [hβq] at hy; injection hy with hy; subst hy
          rw [h2]; exact fun e => Nat.lt_irrefl _ (e ▸ hc.1)
        · rw [hβ r hrq] at hy; exact hc.2.1 r y hy
      · rw [hβ r (by rintro rfl; rw [g1] at hy; cases hy)]; exact hy
    obtain ⟨k1, k2⟩ := h3 W' hmon g3 hβq
    have hnd : ∀ c, d.o.op ≠ .defer c := fun c hc => by rw [hc] at hv; simp [opA] at hv
    refine ⟨u, w', W', .one (s_op hi (wanted_rel hr hwt) hnd h1 (.inl rfl)), m.list ok hd hS hb ?_ hmon k2 fun i r hi' hs' => ?_⟩
    · -- the new row is seen from now on
      have hrow : ∀ r, r ≠ q → (maskRow h.rows (hid (addS S d.i) ms))[r]? = (maskRow h.rows (hid S ms))[r]? := fun r hr => by
        have : r ∈ hid (addS S d.i) ms ↔ r ∈ hid S ms := by
          rw [mem_hid, mem_hid]
          constructor
          · rintro ⟨j, e1, e2⟩
            by_cases hj : j = d.i
            · subst hj; rw [addS_iff.2 (.inl rfl)] at e2; cases e2
            · rw [addS_ne hj] at e2; exact ⟨j, e1, e2⟩
          · rintro ⟨j, e1, e2⟩
            by_cases hj : j = d.i
            · subst hj; exact absurd (m.one _ _ _ e1 hm) hr
            · exact ⟨j, e1, by rw [addS_ne hj]; exact e2⟩
        rw [maskRow_get, maskRow_get]
        by_cases hc : r ∈ hid S ms ∧ r < h.rows.length
        · rw [if_pos hc, if_pos ⟨this.2 hc.1, hc.2⟩]
        · rw [if_neg hc, if_neg (fun e => hc ⟨this.1 e.1, e.2⟩)]
      have hrowq : (maskRow h.rows (hid (addS S d.i) ms))[q]? = some po := by
        rw [maskRow_get, if_neg]
        · exact hq
        · rintro ⟨e1, _⟩
          rw [mem_hid] at e1
          obtain ⟨j, e2, e3⟩ := e1
          have := m.uniq _ _ _ e2 hm
          subst this
          rw [addS_iff.2 (.inl rfl)] at e3; cases e3
      have hg := m.go
      have hlq : ∀ r, r < W0.N → r ≠ q := fun r hr => by rw [← h0n] at hr; omega
      refine ⟨⟨Nat.le_trans hg.ext.size hgr.size, fun c hc hA => (hgr.same c (Nat.lt_of_lt_of_le hc hg.ext.size)).trans (hg.ext.same c hc hA), hg.ext.n, fun r hr y hy => ?_, fun r hr y hy => ?_, hg.ext.dead, hg.ext.off, fun r y hy => ?_, hg.ext.os, hg.ext.tape, hg.ext.output⟩, ⟨?_, fun r po' e1 e2 => ?_, fun r y hy => ?_, fun r r' y y' hy hy' hyb => ?_, fun r hdd => ?_, fun c hc => Nat.lt_of_lt_of_le (hg.rel.offlt c hc) hgr.size, fun r y hy => ?_⟩, fun r hr ha => ?_, fun r hr hno => ?_⟩
      · rw [hβ r (hlq r hr)]; exact hg.ext.up r hr y hy
      · rw [hβ r (hlq r hr)] at hy; exact hg.ext.down r hr y hy
      · by_cases hrq : r = q
        · subst hrq
          rw [hβq] at hy; injection hy with hy; subst hy
          exact .inl (by rw [h2]; exact hg.ext.size)
        · rw [hβ r hrq] at hy; exact hg.ext.new r y hy
      · simpa only [maskRow_len] using hg.rel.n
      · by_cases hrq : r = q
        · subst hrq
          simp only at e1
          rw [hrowq] at e1; injection e1 with e1; subst e1
          exact ⟨x, hβq, k1⟩
        · simp only at e1
          rw [hrow r hrq] at e1
          obtain ⟨y, hy, hp⟩ := hg.rel.rows r po' e1 e2
          exact ⟨y, by rw [hβ r hrq]; exact hy, hp.mon hmon (hgr.same _ (hg.rel.lt r y hy).2)⟩
      · by_cases hrq : r = q
        · subst hrq
          rw [hβq] at hy; injection hy with hy; subst hy
          exact ⟨g3, by rw [h2]; simp [w']⟩
        · rw [hβ r hrq] at hy
          exact ⟨(hg.rel.lt r y hy).1, Nat.lt_of_lt_of_le (hg.rel.lt r y hy).2 hgr.size⟩
      · by_cases hrq : r = q <;> by_cases hrq' : r' = q
        · rw [hrq, hrq']
        · rw [hrq, hβq] at hy; injection hy with hy; subst hy
          rw [hβ r' hrq'] at hy'
          have := (hg.rel.lt r' y' hy').2
          omega
        · rw [hrq', hβq] at hy'; injection hy' with hy'; subst hy'
          rw [hβ r hrq] at hy
          have := (hg.rel.lt r y hy).2
          omega
        · rw [hβ r hrq] at hy; rw [hβ r' hrq'] at hy'
          exact hg.rel.inj r r' y y' hy hy' hyb
      · have hrq : r ≠ q := by rintro rfl; exact g2 hdd
        obtain ⟨e1, e2⟩ := hg.rel.dead r hdd
        exact ⟨by simp only; rw [hrow r hrq]; exact e1, by rw [hβ r hrq]; exact e2⟩
      · by_cases hrq : r = q
        · subst hrq
          rw [hβq] at hy; injection hy with hy; subst hy
          rw [h2]; exact fun e => Nat.lt_irrefl _ (hg.rel.offlt _ e)
        · rw [hβ r hrq] at hy; exact hg.rel.offno r y hy
      · obtain ⟨po', e1, e2⟩ := ha
        simp only at e1
        rw [hrow r (hlq r hr)] at e1
        exact hg.live r hr ⟨po', e1, e2⟩
      · simp only
        rw [hrow r (hlq r hr)]
        exact hg.kept r hr hno
    · have hne : r ≠ q := by
        rintro rfl
        have := m.uniq _ _ _ hi' hm
        subst this
        rw [addS_iff.2 (.inl rfl)] at hs'; cases hs'
      rw [hβ r hne]
      refine m.rows i r hi' ?_
      rw [addS_ne (by rintro rfl; rw [addS_iff.2 (.inl rfl)] at hs'; cases hs')] at hs'
      exact hs'
end
end Go.PI
namespace Go.PI
section
variable {P : Program} {T : Pg} {C : Cx} {N : Nat} {ops : Array Oper} {p : Plan} {ρ0 : Regs} {h0 : H} {W0 : Wd} {w0 : World} {a0 : Act} {k : Out → Bool} {S : Nat → Bool} {a : Act} {w w' : World} {n : Nat} {ld rest : List DOp} {val : Nat → PV} {ρ : Regs} {ms : Ms} {h h' : H} {W W' : Wd} {d e : DOp}
/-- A late one's context. -/
def lateC (C : Cx) (b : Nat) (ms : Ms) : Cx := { C with pr := masked b false ms ++ (masked b true ms ++ C.pr) }
theorem Did.late {ρo : Regs} {v : PV} (hd : Did T C N ops d ρo v h ms) (hN : h.rows.length = W.N) (g : Goes (lateC C e.b ms) { rows := maskRow h.rows (masked e.b true ms) } W w h' W' w') (hb : e.b.testBit d.i = false) (hf : fast d = false) :
    Did T C N ops d ρo v { rows := unmask h.rows h'.rows (masked e.b true ms) } ms := by
  have hlen : h.rows.length ≤ h'.rows.length := by rw [g.rel.n, hN]; exact g.ext.n
  cases hd with
  | skip hx hw hv => exact .skip hx hw hv
  | neu hx hw hk hv => exact .neu hx hw hk hv
  | new q po hw hk hv hm hq =>
    refine .new q po hw hk hv hm ?_
    simp only
    rw [rowsame hN g (List.getElem?_eq_some_iff.1 hq).1 (.inl (mem_masked.2 ⟨_, hm, hb⟩))]
    exact hq
  | load hx hw hk hn hs =>
    have hrow : ∀ r, (d.i, some (false, r)) ∈ ms → (unmask h.rows h'.rows (masked e.b true ms))[r]? = h.rows[r]? := fun r hr => by
      refine rowsame hN g (hn r hr).2.1 (.inr ?_)
      have : r ∈ masked e.b false ms := mem_masked.2 ⟨_, hr, hb⟩
      simp [Cx.no, lateC, this]
    refine .load hx hw hk (fun r hr => ⟨(hn r hr).1, ?_, ?_⟩) fun h2 hh => hs h2 fun r hr => ?_
    · simp only [unmask_len]; have := (hn r hr).2.1; omega
    · simp only; rw [hrow r hr]; exact (hn r hr).2.2
    · rw [hh r hr]; exact hrow r hr
  | read hx hv hw hk hf' ho hl hs => rw [hf] at hf'; cases hf'
  | call hx hv n f args ats vs r hw hf' hop hvs hp hn hr hrv hl hs => rw [hf] at hf'; cases hf'
/-- The machine's step at the late one that PI stands before. -/
theorem Mid.step_head (hE : Env P T) (hC : ∀ m, m < N → SimCall P T m) (ok : Ok T C.me ops p) (hw : C.nt ≤ wide) (h0h : HRel W0 w0 h0) {b : Frame} (hst : St C W0 w0 h0 ρ0 b a0) (m : Mid T C N ops p ρ0 h0 W0 w0 a0 k S a w n ld (d :: rest) val ρ ms h W) (hb : ∀ j, d.b.testBit j = true → S j = true)
    {K : List Item} {cs : List Frame} (is : List Nat) :
    ∃ u w', Steps P (lone (put b a (.inRegion ops (d.i :: is) :: K)) cs w) (lone (put b (a.put d.o.dst u) (.inRegion ops is :: K)) cs w') ∧ ∃ n' ld' rest' val' ρ' h' W', Mid T C N ops p ρ0 h0 W0 w0 a0 k (addS S d.i) (a.put d.o.dst u) w' n' ld' rest' val' ρ' ms h' W' := by
  have hS : S d.i = false := m.sub ok (by simp)
  have hkn : d.kd.isN = false := by
    rcases m.head with h1 | ⟨e, r, h1, h2, _⟩
    · cases h1
    · injection h1 with h1 _; subst h1; exact h2
  have hl := m.ord
  obtain ⟨hdm, hdb, hdi⟩ := ok.next hl
  have hi := (ok.mem d hdm).1
  have hsaw := saw_only ok hl m.ps.regs
  have hr := m.regsRel ok hw hdm hS hb hsaw
  have hx : ∀ q, (d.i, some (true, q)) ∉ ms := fun q hm => by
    obtain ⟨e, he, hei⟩ := inl_iff.1 (m.ent _ _ hm).1
    rw [inl_iff.2 ⟨e, by simp [he], hei⟩] at hdi; cases hdi
  -- what is behind, when it is done
  have behind : ∀ {n' : Nat} {v : PV} {ρ' : Regs} {h' : H} {u : Value} {W' : Wd} {w' : World}, n' ≤ N → putD C ρ d.o.dst v = some ρ' → PI.run T n' C (.tail ops rest ρ' ms) h' k = true → Goes C { rows := maskRow h.rows (hid S ms) } W w { rows := maskRow h'.rows (hid S ms) } W' w' →
      (∀ e ∈ p.fst ++ ld, S e.i = false → fast e = false → d.b.testBit e.i = false → ∀ ρo v, Did T C N ops e ρo v h ms → Did T C N ops e ρo v h' ms) →
      (∀ i q, (i, some (true, q)) ∈ ms → S i = false → W'.β q = none ∧ ¬ W'.dead q ∧ q < W'.N) → Rel W' w' v u →
      ∃ n' ld' rest' val' ρ' h' W', Mid T C N ops p ρ0 h0 W0 w0 a0 k (addS S d.i) (a.put d.o.dst u) w' n' ld' rest' val' ρ' ms h' W' := by
    intro n' v ρ' h' u W' w' hn' hp hrun hgo hstill hrows hrel
    obtain ⟨ps', hv'⟩ := m.ps.put (S' := addS S d.i) (h' := h') (ms' := ms) ok hw hl hp (fun e he hs => by
      have hse : S e.i = false := by
        cases hse : S e.i with
        | false => rfl
        | true => rw [addS_iff.2 (.inr hse)] at hs; cases hs
      have hbe : d.b.testBit e.i = false := by
        cases hbe : d.b.testBit e.i with
        | false => rfl
        | true => rw [hb _ hbe] at hse; cases hse
      have hfe : fast e = false := by
        cases hfe : fast e with
        | false => rfl
        | true =>
          exfalso
          rw [List.mem_append] at he
          rcases he with he | he
          · have := (ok.late ld rest d m.split).2 hkn e he hfe
            rw [hbe] at this; cases this
          · have hke : e.kd.isN = false := by
              unfold fast at hfe
              cases hk : e.kd <;> rw [hk] at hfe <;> first | rfl | cases hfe
            rw [m.nn e he hke] at hse; cases hse
      exact ⟨hse, fun ρo hd => hstill e he hse hfe hbe ρo _ hd⟩) (fun hs => by rw [addS_iff.2 (.inl rfl)] at hs; cases hs)
    have hl2 : p.fst ++ p.late = (p.fst ++ ld ++ [d]) ++ rest := by rw [hl]; simp
    obtain ⟨n2, mid, rest', val2, ρ2, g1, g2, g3, g4, g5, g6, g7⟩ := advance ok hw rest n' (p.fst ++ ld ++ [d]) _ ρ' (fun i q hm => by
      obtain ⟨e, he, hei⟩ := inl_iff.1 (m.ent i q hm).1
      exact inl_iff.2 ⟨e, by simp [he], hei⟩) hl2 hn' hrun ps'
    refine ⟨n2, ld ++ [d] ++ mid, rest', val2, ρ2, h', W', by rw [m.split, g1]; simp, g2, g3, by simpa [List.append_assoc] using g4, ?_, fun e he hke => ?_, m.down.add ok hdm hb, ?_, fun i q h1 h2 => ?_, m.ent, m.uniq, m.one, fun t q hq => ?_, by rw [put_size]; exact m.size, by rw [put_defers]; exact m.defers⟩
    · rcases g7 with g7 | ⟨e, r, rfl, hke⟩
      · exact .inl g7
      · refine .inr ⟨e, r, rfl, hke, ?_⟩
        have her : e ∈ d :: rest := by rw [g1]; simp
        have h1 : S e.i = false := m.sub ok her
        rw [addS_ne]
        · exact h1
        · intro hee
          have h2 := (ok.next (done := p.fst ++ ld ++ [d] ++ mid) (rest := r) (d := e) (by rw [hl2, g1]; simp)).2.2
          rw [hee, inl_iff.2 ⟨d, by simp, rfl⟩] at h2; cases h2
    · simp only [List.mem_append, List.mem_singleton] at he
      rcases he with (he | rfl) | he
      · exact addS_iff.2 (.inr (m.nn e he hke))
      · exact addS_iff.2 (.inl rfl)
      · rw [g5 e he] at hke; cases hke
    · rw [maskRow_congr (hid_same hx)]
      exact m.go.trans h0h hgo
    · rw [addS_ne (by rintro rfl; exact hx _ h1)] at h2
      exact hrows i q h1 h2
    · have hin : ∀ j, inl (p.fst ++ ld) j = true → inl (p.fst ++ ld ++ [d]) j = true := fun j hj => by
        obtain ⟨e, he, hei⟩ := inl_iff.1 hj
        exact inl_iff.2 ⟨e, by rw [List.mem_append]; exact .inl he, hei⟩
      have hvd : val2 d.i = v := by
        rw [g6 d.i (inl_iff.2 ⟨d, by simp, rfl⟩)]; simp [upd]
      have hvS : cur ops (addS S d.i) val2 ρ0 t = if d.o.dst = some t then some v else cur ops S val ρ0 t := by
        have e1 := cur_put (ρ0 := ρ0) (t := t) ok m.down hdm hb hS (val := val) (val' := upd val d.i v) (v := v) (fun j hj => by
          unfold upd
          rw [if_neg]
          rintro rfl
          rw [hS] at hj; cases hj) (by simp [upd])
        rw [← e1]
        unfold cur
        cases hlo : lastOf ops (addS S d.i) t ops.size with
        | none => rfl
        | some j =>
          obtain ⟨e2, e3, e4⟩ := lastOf_some hlo
          simp only
          congr 1
          rw [addS_iff] at e2
          obtain ⟨oj, hoj, _⟩ := wr_iff.1 e3
          rcases e2 with rfl | e2
          · rw [hvd]; simp [upd]
          · exact g6 j (hin j (m.inlS ok (ok.all j oj hoj) e2))
      rw [hvS] at hq
      rw [put_get m.size (fun t ht => by
        have := hp
        rw [ht] at this
        simp only [putD] at this
        split at this
        · assumption
        · cases this)]
      split at hq
      · rename_i ht
        injection hq with hq; subst hq
        exact ⟨u, by rw [if_pos ht], hrel⟩
      · rename_i ht
        obtain ⟨x, h1, h2⟩ := m.regs t q hq
        exact ⟨x, by rw [if_neg ht]; exact h1, h2.mon hgo.ext.mon⟩
  have hrun := m.run
  cases n with
  | zero => simp only [PI.run] at hrun; cases hrun
  | succ n =>
  have hnN := m.fuel
  simp only [PI.run] at hrun
  split at hrun
  · cases hrun
  · rename_i hwt
    split at hrun
    · rename_i ρ' hp
      have hstep := s_op_skip (P := P) (b := b) (a := a) (k := K) (cs := cs) (w := w) (ops := ops) (i := d.i) (rest := is) (by rw [hi]; simp [wanted_rel hr hwt])
      rw [hi] at hstep
      simp only [Option.bind_some] at hstep
      exact ⟨undef, w, .one hstep, behind (by omega) hp hrun (.refl m.go.rel) (fun e _ _ _ _ ρo v hd => hd) m.rows rel_undef⟩
    · cases hrun
  · rename_i hwt
    have hex : exec T (fun C f vs h k => PI.run T n C (.call f vs) h fun o => k o.v o.h) (lateC C d.b ms) (only ρ d.ns) { rows := maskRow h.rows (masked d.b true ms) } d.o.op (fun v h' => match putD C ρ d.o.dst v with
        | some ρ' => PI.run T n C (.tail ops rest ρ' ms) { rows := unmask h.rows h'.rows (masked d.b true ms) } k
        | none => false) = true := by
      cases hk : d.kd <;> rw [hk] at hrun hkn <;> first | exact hrun | cases hkn
    have hseen : HRel W w { rows := maskRow h.rows (masked d.b true ms) } := m.seen hb (maskRow_len _ _) mask_sub
    have hst' : St (lateC C d.b ms) W w { rows := maskRow h.rows (masked d.b true ms) } (only ρ d.ns) b a := ⟨hseen, hr, hst.fn, hst.kind, by
      have h1 := (hst.next m.go (a' := a) (ρ' := only ρ d.ns) hr).rd
      exact h1⟩
    obtain ⟨v, h', hk, u, W', w', g1, g2, g3⟩ := exec_sim (K := K) (cs := cs) (rest := is) hE (hC n (by omega)) hst' hex hi (wanted_rel hr hwt)
    split at hk
    · rename_i ρ' hp
      have hN : h.rows.length = W.N := by have := hseen.n; simpa [maskRow_len] using this
      have hmem := late_mem (C := C) (hl := hid S ms) m.go.rel (fun r hr => Mid.unhid hb hr) (fun r hr => by simp only [Cx.no, lateC, Bool.or_eq_true, List.contains_eq_mem, List.mem_append, decide_eq_true_eq] at hr ⊢; rcases hr with hr | hr <;> simp [hr]) (fun r hr => by simp [Cx.no, lateC, hr]) g2
      refine ⟨u, w', g3, behind (by omega) hp hk hmem (fun e he hse hfe hbe ρo v hd => hd.late hN g2 hbe hfe) (fun i q h1 h2 => ?_) g1⟩
      obtain ⟨k1, k2, k3⟩ := m.rows i q h1 h2
      have hq : q ∈ masked d.b true ms := Mid.unhid hb (mem_hid.2 ⟨i, h1, h2⟩)
      have hkept := g2.kept q k3 (by simp [Cx.no, lateC, hq])
      refine ⟨?_, fun hdd => k2 (hkept.2 hdd), Nat.lt_of_lt_of_le k3 g2.ext.n⟩
      cases hβ : W'.β q with
      | none => rfl
      | some x => rw [g2.ext.down q k3 x hβ] at k1; cases k1
    · cases hk
end
end Go.PI
namespace Go.PI
def setOf (listed : Array Bool) : Nat → Bool := fun i => listed.getD i false
section
variable {P : Program} {T : Pg} {C : Cx} {N : Nat} {ops : Array Oper} {p : Plan} {ρ0 : Regs} {h0 : H} {W0 : Wd} {w0 : World} {a0 : Act} {k : Out → Bool}
theorem setOf_set {listed : Array Bool} {i : Nat} (hi : i < listed.size) : setOf (listed.setIfInBounds i true) = addS (setOf listed) i := by
  funext j
  unfold setOf addS
  by_cases h : j = i
  · subst h; simp [hi]
  · have : Nat.beq j i = false := by
      cases hb : Nat.beq j i with
      | false => rfl
      | true => exact absurd (Nat.eq_of_beq_eq_true hb) h
    rw [this, Bool.false_or]
    simp [Array.getElem?_setIfInBounds_ne (Ne.symm h)]
/-- What holds along a drawn order. -/
def Along (T : Pg) (C : Cx) (N : Nat) (ops : Array Oper) (p : Plan) (ρ0 : Regs) (h0 : H) (W0 : Wd) (w0 : World) (a0 : Act) (k : Out → Bool) (c : Nat) (listed : Array Bool) (a : Act) (w : World) : Prop :=
  listed.size = ops.size ∧ listed.toList.countP id = c ∧ ∃ n ld rest val ρ ms h W, Mid T C N ops p ρ0 h0 W0 w0 a0 k (setOf listed) a w n ld rest val ρ ms h W
theorem along_step (hE : Env P T) (hS : ∀ m, m < N → SimCode P T m) (hC : ∀ m, m < N → SimCall P T m) (ok : Ok T C.me ops p) (hw : C.nt ≤ wide) (h0h : HRel W0 w0 h0) {b : Frame} (hst : St C W0 w0 h0 ρ0 b a0) {K : List Item} {cs : List Frame} :
    ∀ c listed a w i, Along T C N ops p ρ0 h0 W0 w0 a0 k c listed a w → i ∈ Region.ready .any ops listed → ∀ rest, ∃ a' w', Steps P (lone (put b a (.inRegion ops (i :: rest) :: K)) cs w) (lone (put b a' (.inRegion ops rest :: K)) cs w') ∧ Along T C N ops p ρ0 h0 W0 w0 a0 k (c + 1) (listed.setIfInBounds i true) a' w' := by
  intro c listed a w i hA hi is
  obtain ⟨hsz, hcnt, n, ld, rest, val, ρ, ms, h, W, m⟩ := hA
  obtain ⟨h1, o, ho, hall⟩ := mem_ready.1 hi
  obtain ⟨d, hdm, rfl⟩ := ok.all i o ho
  have hdo : d.o = o := by
    have := (ok.mem d hdm).1
    rw [ho] at this; injection this with this; exact this.symm
  have hlt : d.i < listed.size := by rw [hsz]; exact (Array.getElem?_eq_some_iff.1 ho).1
  have hfalse : setOf listed d.i = false := by
    simp only [setOf, Array.getD_eq_getD_getElem?, Array.getElem?_eq_getElem hlt, Option.getD_some] at h1 ⊢
    exact h1
  have hb : ∀ j, d.b.testBit j = true → setOf listed j = true := fun j hj => by
    obtain ⟨e, he, hbi, hor⟩ := ok.edges d hdm j hj
    have hon : setOf listed e.on = true := hall e (hdo ▸ he) hbi
    rcases hor with rfl | ⟨x, hx, hxi, hxj⟩
    · exact hon
    · exact m.down x hx (hxi ▸ hon) j hxj
  have hcnt' : (listed.setIfInBounds d.i true).toList.countP id = c + 1 := by
    rw [Array.toList_setIfInBounds, List.countP_set (by simpa using hlt)]
    have : listed.toList[d.i]'(by simpa using hlt) = false := by
      simp only [setOf, Array.getD_eq_getD_getElem?, Array.getElem?_eq_getElem hlt, Option.getD_some] at hfalse
      simpa using hfalse
    simp [this, hcnt]
  have hsz' : (listed.setIfInBounds d.i true).size = ops.size := by simpa using hsz
  have hord := m.ord
  by_cases hdone : d ∈ p.fst ++ ld
  · obtain ⟨u, w', W', hs, hm⟩ := m.step_done hE hS ok hw h0h.n hdone hfalse hb (b := b) (K := K) (cs := cs) is
    exact ⟨_, w', hs, hsz', hcnt', n, ld, rest, val, ρ, ms, h, W', by rw [setOf_set hlt]; exact hm⟩
  · have hdr : d ∈ rest := by
      rw [hord, List.mem_append] at hdm
      exact hdm.resolve_left hdone
    rcases m.head with hnil | ⟨e, r, hr, hk, hs⟩
    · rw [hnil] at hdr; simp at hdr
    · have hde : d = e := by
        rw [hr] at hdr
        simp only [List.mem_cons] at hdr
        rcases hdr with hdr | hdr
        · exact hdr
        · exfalso
          obtain ⟨l1, l2, hl⟩ := List.append_of_mem hdr
          have h2 := (ok.late (ld ++ e :: l1) l2 d (by rw [m.split, hr, hl]; simp)).1 e (by simp) hk
          rw [hb _ h2] at hs; cases hs
      subst hde
      subst hr
      obtain ⟨u, w', hs, n', ld', rest', val', ρ', h', W', hm⟩ := m.step_head hE hC ok hw h0h hst hb (K := K) (cs := cs) is
      exact ⟨_, w', hs, hsz', hcnt', n', ld', rest', val', ρ', ms, h', W', by rw [setOf_set hlt]; exact hm⟩
/-- At the end all are listed. -/
theorem all_listed (ok : Ok T C.me ops p) {listed : Array Bool} (hsz : listed.size = ops.size) (h : Region.ready .any ops listed = [] ∨ listed.toList.countP id = ops.size) : ∀ i, i < ops.size → setOf listed i = true := by
  rcases h with h | h
  · intro i
    induction i using Nat.strongRecOn with
    | ind i ih =>
      intro hi
      cases hs : setOf listed i with
      | true => rfl
      | false =>
        exfalso
        have hlt : i < listed.size := by omega
        have : i ∈ Region.ready .any ops listed := by
          rw [mem_ready]
          refine ⟨?_, ops[i], Array.getElem?_eq_getElem hi, fun e he hb => ?_⟩
          · simp only [setOf, Array.getD_eq_getD_getElem?, Array.getElem?_eq_getElem hlt, Option.getD_some] at hs ⊢
            exact hs
          · obtain ⟨d, hdm, hdi⟩ := ok.all i _ (Array.getElem?_eq_getElem hi)
            have hdo : d.o = ops[i] := by
              have := (ok.mem d hdm).1
              rw [hdi, Array.getElem?_eq_getElem hi] at this; injection this with this; exact this.symm
            have hlt2 := ok.back d hdm _ (ok.edge d hdm e (hdo ▸ he) hb)
            exact ih e.on (by omega) (by omega)
        rw [h] at this
        simp at this
  · intro i hi
    have h1 : listed.toList.countP id = listed.toList.length := by rw [h]; simp [hsz]
    have h2 := List.countP_eq_length.1 h1
    have hlt : i < listed.size := by omega
    have := h2 listed[i] (by simp)
    simp only [setOf, Array.getD_eq_getD_getElem?, Array.getElem?_eq_getElem hlt, Option.getD_some]
    simpa using this
theorem draw_sim (hE : Env P T) (hP : P.follows .mixedOrders = true) (hS : ∀ m, m < N → SimCode P T m) (hC : ∀ m, m < N → SimCall P T m) : SimDraw P T (N + 1) := by
  intro C id ops ρ h k hrun W w b a K cs s
  simp only [PI.run] at hrun
  split at hrun
  · cases hrun
  rename_i p hplan
  have ok := plan_ok hplan
  have hw := s.hr.wide
  have hlen0 : ({ rows := h.rows ++ List.replicate p.na .dead } : H).rows.length = h.rows.length + p.na := by simp
  have er0 : ER h { rows := h.rows ++ List.replicate p.na .dead } h.rows.length [] [] :=
    ⟨Nat.le_refl _, fun r hr => by simp only; rw [List.getElem?_append_left hr], fun r h1 h2 => by
      rw [hlen0] at h2
      simp only
      rw [List.getElem?_append_right h1, List.getElem?_replicate, if_pos (by omega)], fun i r hr => by simp at hr, fun r h1 h2 => by omega, fun i i' r hr => by simp at hr, fun i r r' hr => by simp at hr, Nat.le_refl _, fun i r hr => by simp at hr⟩
  have ps0 : PS T C N ops ρ (fun _ => false) [] (fun _ => .tup []) ρ { rows := h.rows ++ List.replicate p.na .dead } [] := by
    refine ⟨fun t => ?_, fun d hd => by simp at hd, fun d hd => by simp at hd⟩
    unfold cur
    cases hl : lastOf ops (inl []) t ops.size with
    | none => rfl
    | some j => have := (lastOf_some hl).1; simp [inl] at this
  obtain ⟨n1, val1, ρ1, q1, ms, h1, g1, g2, g3, g4, g5⟩ := draw_ps (h0 := h) ok hw p.fst N [] (fun _ => .tup []) ρ _ [] _ rfl (Nat.le_refl _) hlen0 hrun ps0 er0
  obtain ⟨n2, mid, rest, val2, ρ2, k1, k2, k3, k4, k5, k6, k7⟩ := advance ok hw p.late n1 p.fst val1 ρ1 (fun i q hm => (g5.new i q hm).2.2) rfl g1 g3 g4
  -- the machine's start
  let W1 : Wd := ⟨W.β, W.N + p.na, W.dead, W.off⟩
  let w1 : World := { w with drawn := w.drawn + 1 }
  let l0 : Array Bool := Array.replicate ops.size false
  have hS0 : setOf l0 = fun _ => false := by
    funext i
    simp only [setOf, l0, Array.getD_eq_getD_getElem?, Array.getElem?_replicate]
    split <;> rfl
  have hmon : Mon W w W1 w1 := ⟨fun _ _ _ _ hb _ => ⟨hb, rfl⟩, Nat.le_add_right _ _, fun _ _ _ hx => .inl hx, fun _ _ hd => hd⟩
  have hhid : ∀ r, r ∈ hid (fun _ => false) ms ↔ ∃ i, (i, some (true, r)) ∈ ms := fun r => by
    rw [mem_hid]; exact ⟨fun ⟨i, hi, _⟩ => ⟨i, hi⟩, fun ⟨i, hi⟩ => ⟨i, hi, rfl⟩⟩
  have hrow : ∀ r, r < h.rows.length → (maskRow h1.rows (hid (fun _ => false) ms))[r]? = h.rows[r]? := fun r hr => by
    rw [maskRow_get, if_neg, g5.old r hr]
    rintro ⟨e1, _⟩
    obtain ⟨i, hi⟩ := (hhid r).1 e1
    have := (g5.new i r hi).1
    omega
  have hrow2 : ∀ r po, h.rows.length ≤ r → (maskRow h1.rows (hid (fun _ => false) ms))[r]? = some po → po = .dead := fun r po hr hp => by
    rw [maskRow_get] at hp
    split at hp
    · injection hp with hp; exact hp.symm
    · rename_i hn
      have hlt := (List.getElem?_eq_some_iff.1 hp).1
      rcases Nat.lt_or_ge r q1 with hq | hq
      · exact absurd ⟨(hhid r).2 (g5.onto r hr hq), hlt⟩ hn
      · rw [g5.free r hq hlt] at hp; injection hp with hp; exact hp.symm
  have hN := s.hh.n
  have hgo : Goes C h W w { rows := maskRow h1.rows (hid (fun _ => false) ms) } W1 w1 := by
    refine ⟨⟨Nat.le_refl _, fun _ _ _ => rfl, Nat.le_add_right _ _, fun _ _ _ hx => .inl hx, fun _ _ _ hx => hx, fun _ hd => hd, fun _ => Iff.rfl, fun r x hx => .inr ⟨r, x, hx, rfl, .inl rfl⟩, rfl, rfl, rfl⟩, ⟨?_, fun r po e1 e2 => ?_, fun r x hx => ⟨?_, (s.hh.lt r x hx).2⟩, s.hh.inj, fun r hd => ⟨?_, (s.hh.dead r hd).2⟩, s.hh.offlt, s.hh.offno⟩, fun r hr ha => ?_, fun r hr hno => ⟨?_, fun hd => hd⟩⟩
    · simp only [maskRow_len]; rw [g2, hN]
    · simp only at e1
      rcases Nat.lt_or_ge r h.rows.length with hr | hr
      · rw [hrow r hr] at e1
        obtain ⟨x, hx, hp⟩ := s.hh.rows r po e1 e2
        exact ⟨x, hx, hp.mon hmon rfl⟩
      · exact absurd (hrow2 r po hr e1) e2
    · exact Nat.lt_of_lt_of_le (s.hh.lt r x hx).1 (Nat.le_add_right _ _)
    · have h3 := (s.hh.dead r hd).1
      simp only
      rw [hrow r (List.getElem?_eq_some_iff.1 h3).1]; exact h3
    · obtain ⟨po, e1, e2⟩ := ha
      simp only at e1
      rw [hrow r (by omega)] at e1
      exact ⟨po, e1, e2⟩
    · simp only; exact hrow r (by omega)
  have hal0 : Along T C N ops p ρ h W w a k 0 l0 a w1 := by
    refine ⟨by simp [l0], by simp [l0, List.countP_replicate], n2, mid, rest, val2, ρ2, ms, h1, W1, k1, k2, k3, ?_, ?_, fun d hd hk => ?_, ?_, ?_, fun i q hm _ => ?_, fun i q hm => ⟨(g5.new i q hm).2.2, (g5.new i q hm).1⟩, g5.uniq, g5.one, fun t q hq => ?_, s.hr.size, rfl⟩
    · rw [hS0]; exact k4
    · rcases k7 with k7 | ⟨d, r, hr, hk⟩
      · exact .inl k7
      · exact .inr ⟨d, r, hr, hk, by rw [hS0]⟩
    · rw [k5 d hd] at hk; cases hk
    · intro d _ hs
      rw [hS0] at hs; cases hs
    · rw [hS0]; exact hgo
    · obtain ⟨e1, e2, _⟩ := g5.new i q hm
      have hlq : q < h.rows.length + p.na := by
        have := g5.cnt
        rw [ok.na]
        omega
      refine ⟨?_, fun hd => ?_, by simp only [W1]; omega⟩
      · cases hβ : W.β q with
        | none => rfl
        | some x => have := (s.hh.lt q x hβ).1; omega
      · have h3 := (s.hh.dead q hd).1
        have := (List.getElem?_eq_some_iff.1 h3).1
        omega
    · rw [hS0] at hq
      have : cur ops (fun _ => false) val2 ρ t = gt ρ t := by
        unfold cur
        cases hl : lastOf ops (fun _ => false) t ops.size with
        | none => rfl
        | some j => have := (lastOf_some hl).1; cases this
      rw [this] at hq
      obtain ⟨v, e1, e2⟩ := s.hr.get t q hq
      exact ⟨v, e1, e2.mon hmon⟩
  have hstart := s_region_draw (P := P) (b := b) (a := a) (k := K) (cs := cs) (w := w) (ops := ops) (id := id)
  have hsched : Region.schedule (P.follows .mixedOrders) ops (w.tape w.drawn (.order b.fn id)) = Region.linearise.go .any ops ops.size (w.tape w.drawn (.order b.fn id)) l0 [] := by
    simp only [Region.schedule, hP, Bool.true_or, if_true]; rfl
  rw [hsched] at hstart
  obtain ⟨c', l', a', w', hA, hend, hsteps⟩ := sched_run (P := P) (b := b) (K := K) (cs := cs) (ops := ops) (along_step (k := k) hE hS hC ok hw s.hh s) ops.size _ 0 l0 a w1 hal0
  obtain ⟨hsz, hcnt, n3, ld, rest3, val3, ρ3, ms3, h3, W3, m⟩ := hA
  have hall := all_listed ok hsz (hend.imp (fun e => e) fun e => by rw [hcnt, e]; omega)
  have hrest : rest3 = [] := by
    rcases m.head with e | ⟨d, r, rfl, _, hs⟩
    · exact e
    · have hd : d ∈ p.fst ++ p.late := by rw [m.split]; simp
      rw [hall d.i (Array.getElem?_eq_some_iff.1 (ok.mem d hd).1).1] at hs; cases hs
  subst hrest
  have hrun3 := m.run
  cases n3 with
  | zero => simp only [PI.run] at hrun3; cases hrun3
  | succ n3 =>
  simp only [PI.run] at hrun3
  have hnil : hid (setOf l') ms3 = [] := by
    rw [List.eq_nil_iff_forall_not_mem]
    intro r hr
    obtain ⟨i, e1, e2⟩ := mem_hid.1 hr
    obtain ⟨e, he, hei⟩ := inl_iff.1 (m.ent i r e1).1
    rw [← hei, hall e.i (Array.getElem?_eq_some_iff.1 (ok.mem e (by simp [he])).1).1] at e2; cases e2
  have hgo3 := m.go
  rw [hnil] at hgo3
  refine ⟨_, hrun3, W3, w', a', hgo3, ⟨m.size, hw, fun t q hq => ?_⟩, ⟨[], by rw [m.defers]; rfl, trivial, fun _ => rfl⟩, ?_⟩
  · simp only at hq
    rw [m.ps.regs t] at hq
    refine m.regs t q ?_
    rw [← hq]
    refine cur_set fun j hj => ?_
    rw [hall j hj]
    obtain ⟨e, he, hei⟩ := ok.all j _ (Array.getElem?_eq_getElem hj)
    rw [m.ord, List.append_nil] at he
    exact (inl_iff.2 ⟨e, he, hei⟩).symm
  · exact Steps.head hstart (hsteps.trans (.one s_region_end))
end
end Go.PI
namespace Go.PI
section
variable {P : Program} {T : Pg}
theorem all_sim (hE : Env P T) (hP : P.follows .mixedOrders = true) : ∀ n, SimCode P T n ∧ SimOps P T n ∧ SimCall P T n := by
  intro n
  induction n using Nat.strongRecOn with
  | ind n ih =>
    cases n with
    | zero =>
      refine ⟨?_, ?_, ?_⟩
      · intro C c ρ h k hr
        simp only [run] at hr; cases hr
      · intro C all l ρ h k hr
        simp only [run] at hr; cases hr
      · intro C fv args h k hr
        simp only [run] at hr; cases hr
    | succ n =>
      obtain ⟨h1, h2, h3⟩ := ih n (by omega)
      have hD := draw_sim (N := n) hE hP (fun m hm => (ih m (by omega)).1) (fun m hm => (ih m (by omega)).2.2)
      exact ⟨code_sim h1 h2 h3 hD, ops_sim hE h3 h2, call_sim hE h1⟩
end

/-! ### values that name no row -/
mutual
def rowless : PV → Bool
  | .lit _ | .sl .. | .iptr _ => true
  | .fn _ a b => rowlessL a && rowlessL b
  | .agg cs => rowlessL cs
  | .tup cs => rowlessL cs
  | _ => false
def rowlessL : List PV → Bool
  | [] => true
  | p :: ps => rowless p && rowlessL ps
end
/-- No row is told of: what rows have is off. -/
def Wd.bare (W : Wd) : Wd := ⟨fun _ => Option.none, 0, fun _ => False, fun b => W.off b ∨ ∃ r x, W.β r = some x ∧ x.b = b⟩
section
variable {P : Program} {T : Pg} {W : Wd} {w w' : World} {h : H}
theorem imm_bare {b : Nat} : Imm W w b ↔ Imm W.bare w b := by
  constructor
  · rintro ⟨h1, h2, h3⟩
    exact ⟨h1, ⟨fun r x hx => (by cases hx), fun h => Or.elim h h3 (fun ⟨r, x, hx, hb⟩ => h2 r x hx hb)⟩⟩
  · rintro ⟨h1, h2, h3⟩
    exact ⟨h1, ⟨fun r x hx hb => h3 (.inr ⟨r, x, hx, hb⟩), fun h => h3 (.inl h)⟩⟩
theorem mon_bare : Mon W.bare w W w := ⟨fun _ _ _ _ hb _ => ⟨imm_bare.2 hb, rfl⟩, Nat.zero_le _, fun _ h => absurd h (Nat.not_lt_zero _), fun _ h => absurd h (Nat.not_lt_zero _)⟩
theorem mon_bare_none : Mon W.none w W.bare.none w := ⟨fun _ _ _ _ hb _ => ⟨(imm_bare (W := W)).1 hb, rfl⟩, Nat.le_refl _, fun _ h => absurd h (Nat.not_lt_zero _), fun _ h => absurd h (Nat.not_lt_zero _)⟩
mutual
theorem rel_bare : ∀ {p : PV} {v : Value}, rowless p = true → Rel W w p v → Rel W.bare w p v
  | .lit x, v, _, hr => by simp only [Rel] at hr ⊢; exact hr
  | .sl cs n full nn, v, _, hr => by
    simp only [Rel] at hr ⊢
    obtain ⟨a, cap, hv, h1, h2, h3, h4⟩ := hr
    refine ⟨a, cap, hv, h1, h2, h3, ?_⟩
    rcases h4 with h4 | ⟨b, o, ha, hi, hc⟩
    · exact .inl h4
    · exact .inr ⟨b, o, ha, imm_bare.1 hi, hc.mon mon_bare_none hi⟩
  | .iptr cs, v, _, hr => by
    simp only [Rel] at hr ⊢
    obtain ⟨a, hv, h4⟩ := hr
    refine ⟨a, hv, ?_⟩
    rcases h4 with h4 | ⟨b, o, ha, hi, hc⟩
    · exact .inl h4
    · exact .inr ⟨b, o, ha, imm_bare.1 hi, hc.mon mon_bare_none hi⟩
  | .fn f a b, v, hl, hr => by
    simp only [rowless, Bool.and_eq_true] at hl
    simp only [Rel] at hr ⊢
    obtain ⟨vf, vc, hv, h1, h2⟩ := hr
    exact ⟨vf, vc, hv, relL_bare hl.1 h1, relL_bare hl.2 h2⟩
  | .agg cs, v, hl, hr => by
    simp only [rowless] at hl
    simp only [Rel] at hr ⊢
    obtain ⟨vs, hv, h1⟩ := hr
    exact ⟨vs, hv, relL_bare hl h1⟩
  | .tup cs, v, hl, hr => by
    simp only [rowless] at hl
    simp only [Rel] at hr ⊢
    obtain ⟨vs, hv, h1⟩ := hr
    exact ⟨vs, hv, relL_bare hl h1⟩
  | .row .., v, hl, _ => by simp [rowless] at hl
  | .ptr .., v, hl, _ => by simp [rowless] at hl
  | .mp _, v, hl, _ => by simp [rowless] at hl
  | .yld _, v, hl, _ => by simp [rowless] at hl
  | .it _, v, hl, _ => by simp [rowless] at hl
theorem relL_bare : ∀ {ps : List PV} {vs : List Value}, rowlessL ps = true → RelL W w ps vs → RelL W.bare w ps vs
  | [], vs, _, hr => by simp only [RelL] at hr ⊢; exact hr
  | p :: ps, vs, hl, hr => by
    simp only [rowlessL, Bool.and_eq_true] at hl
    simp only [RelL] at hr ⊢
    obtain ⟨v, vs, he, h1, h2⟩ := hr
    exact ⟨v, vs, he, rel_bare hl.1 h1, relL_bare hl.2 h2⟩
end
theorem hrel_bare (hh : HRel W w h) : HRel W.bare w ⟨[]⟩ where
  n := rfl
  rows r po hr := by simp at hr
  lt r x hx := by cases hx
  inj r r' x x' hx := by cases hx
  dead r hd := hd.elim
  offlt b hb := Or.elim hb (hh.offlt b) fun ⟨r, x, hx, hxb⟩ => hxb ▸ (hh.lt r x hx).2
  offno r x hx := by cases hx
/-- What a call comes to, seen from a memory h. -/
def Gives (T : Pg) (f : FuncId) (xs : List PV) (v : PV) (h : H) : Prop :=
  ∃ n C k, T.pure C.me f = true ∧ (∀ o : Out, k o = true → o.v = v) ∧ run T n C (.call (.fn f [] []) xs) h k = true
/-- A memory of which less is told. -/
def Less2 (h1 h : H) : Prop := h1.rows.length = h.rows.length ∧ ∀ (r : Nat) (po : PO), h1.rows[r]? = some po → po ≠ .dead → h.rows[r]? = some po
theorem HRel.less (hh : HRel W w h) {h1 : H} (hl : Less2 h1 h) : HRel W w h1 :=
  hh.fewer hl.1 hl.2 fun r hd => by
    have h2 := (hh.dead r hd).1
    have hlt : r < h1.rows.length := by rw [hl.1]; exact (List.getElem?_eq_some_iff.1 h2).1
    cases hq : h1.rows[r]? with
    | none => rw [List.getElem?_eq_none_iff] at hq; omega
    | some po =>
      by_cases hp : po = .dead
      · rw [hp]
      · have := hl.2 r po hq hp
        rw [h2] at this
        injection this with this; exact absurd this.symm hp
theorem Gives.sim (hE : Env P T) (hP : P.follows .mixedOrders = true) {f : FuncId} {xs : List PV} {v : PV} (hc : Gives T f xs v h) {vs : List Value} (hh : HRel W w h) (has : RelL W w xs vs) :
    ∃ nx fr, (callOf (.func (.func f) #[] #[]) vs.toArray).run P w = .ok nx w ∧ entered P nx = some fr ∧
      ∀ c cs, ∃ w' v', Grew w w' ∧ Rel W w' v v' ∧ Steps P (lone fr (c :: cs) w) (lone (c.finish v') cs w') := by
  obtain ⟨n, C, k, hp, hv, hk⟩ := hc
  cases n with
  | zero => simp only [run] at hk; cases hk
  | succ n =>
    obtain ⟨nx, fr, h1, h2, h3⟩ := pure_sim hE (all_sim hE hP n).1 (by simp only [pureV]; exact hp) hk hh has
    refine ⟨nx, fr, h1, h2, fun c cs => ?_⟩
    obtain ⟨o, ho, w', v', g1, g2, g3⟩ := h3 c cs
    have : o.v = v := hv o ho
    rw [this] at g2
    exact ⟨w', v', g1, g2, g3⟩
/-- Either of values that name no row, seen from an empty memory, or from a memory of which less is told. -/
def Told (T : Pg) (f : FuncId) (xs : List PV) (h : H) (v : PV) : Prop := (rowlessL xs = true ∧ Gives T f xs v ⟨[]⟩) ∨ ∃ h1, Less2 h1 h ∧ Gives T f xs v h1
theorem Told.sim (hE : Env P T) (hP : P.follows .mixedOrders = true) {f : FuncId} {xs : List PV} {v : PV} (hc : Told T f xs h v) {vs : List Value} (hh : HRel W w h) (has : RelL W w xs vs) :
    ∃ nx fr, (callOf (.func (.func f) #[] #[]) vs.toArray).run P w = .ok nx w ∧ entered P nx = some fr ∧
      ∀ c cs, ∃ w' v', Grew w w' ∧ Rel W w' v v' ∧ Steps P (lone fr (c :: cs) w) (lone (c.finish v') cs w') := by
  rcases hc with ⟨hl, hc⟩ | ⟨h1, hl, hc⟩
  · obtain ⟨nx, fr, h1, h2, h3⟩ := hc.sim hE hP (hrel_bare hh) (relL_bare hl has)
    refine ⟨nx, fr, h1, h2, fun c cs => ?_⟩
    obtain ⟨w', v', g1, g2, g3⟩ := h3 c cs
    exact ⟨w', v', g1, g2.mon mon_bare, g3⟩
  · exact hc.sim hE hP (hh.less hl) has
/-- Summaries of functions that call one another: each may use the others' where the measure is less. -/
def Pg.with (T : Pg) (F : FuncId → Bool) (s : FuncId → List PV → H → Option PV) : Pg := { T with sum := fun g => if F g = true then some (s g) else T.sum g }
def below (s : FuncId → List PV → H → Option PV) (μ : FuncId → List PV → Nat) (m : Nat) : FuncId → List PV → H → Option PV := fun g xs h => if μ g xs < m then s g xs h else none
theorem Env.with (hE : Env P T) (hP : P.follows .mixedOrders = true) {F : FuncId → Bool} {s : FuncId → List PV → H → Option PV} (μ : FuncId → List PV → Nat)
    (hF : ∀ g, F g = true → ∃ fn, T.fn g = some fn ∧ fn.body.isNone = false)
    (hs : ∀ g xs h v, F g = true → s g xs h = some v → Told (T.with F (below s μ (μ g xs))) g xs h v) : Env P (T.with F s) := by
  have mk : ∀ (s' : FuncId → List PV → H → Option PV), (∀ g xs h v, F g = true → s' g xs h = some v → ∀ W w vs, HRel W w h → RelL W w xs vs → ∀ c cs, ∃ w' v', Grew w w' ∧ Rel W w' v v' ∧ Steps P (lone (Frame.enter P g vs.toArray .normal) (c :: cs) w) (lone (c.finish v') cs w')) → Env P (T.with F s') := by
    intro s' hs'
    refine ⟨fun t ti h => hE.ty t ti h, hE.fn, fun g s'' hg => ?_⟩
    simp only [Pg.with] at hg
    split at hg
    · rename_i hFg
      injection hg with hg; subst hg
      obtain ⟨fn, h1, h2⟩ := hF g hFg
      exact ⟨⟨fn, (hE.fn g fn h1).1, (hE.fn g fn h1).2, h2⟩, fun xs h v hx => hs' g xs h v hFg hx⟩
    · exact hE.sum g s'' hg
  have key : ∀ m, Env P (T.with F (below s μ m)) := by
    intro m
    induction m with
    | zero => exact mk _ fun g xs h v _ hx => by simp [below] at hx
    | succ m ih =>
      refine mk _ fun g xs h v hg hx W w vs hh has c cs => ?_
      unfold below at hx
      split at hx
      · rename_i hlt
        rcases Nat.lt_or_ge (μ g xs) m with h1 | h1
        · exact ((ih.sum g (below s μ m g) (by simp [Pg.with, hg])).2 xs h v (by simp [below, h1, hx])) W w vs hh has c cs
        · have hm : μ g xs = m := by omega
          have h3 := hs g xs h v hg hx
          rw [hm] at h3
          obtain ⟨nx, fr, h4, h5, h6⟩ := h3.sim ih hP hh has
          obtain ⟨fn, h7, h8⟩ := hF g hg
          rw [run_call_fn (hE.fn g fn h7).1 (hE.fn g fn h7).2 h8] at h4
          injection h4 with h4 _; subst h4
          simp only [entered] at h5
          injection h5 with h5; subst h5
          simpa using h6 c cs
      · cases hx
  refine mk s fun g xs h v hg hx W w vs hh has c cs => ?_
  exact ((key (μ g xs + 1)).sum g (below s μ (μ g xs + 1) g) (by simp [Pg.with, hg])).2 xs h v (by simp [below, hx]) W w vs hh has c cs
end
end Go.PI
namespace Go.PI
open Go.RowKit (Below)
section
variable {W W' : Wd} {w w' : World} {P : Program} {T : Pg} {C : Cx} {h : H} {n : Nat}
/-- A function's whole call. -/
theorem top_calls (hE : Env P T) (hP : P.follows .mixedOrders = true) {f : FuncId} {fn : Func} {body : Code} (hf : P.funcs[f]? = some fn) (hb : fn.body = some body) {xs : List PV} {vs : List Value} (hh : HRel W w h) (has : RelL W w xs vs)
    (hl : xs.length ≤ fn.ntmps) (hwd : fn.ntmps ≤ wide) (hme : C.me = f) (hnt : C.nt = fn.ntmps) (hrd : C.rd = none) {k : Out → Bool} (hrun : run T n C (.code body (regsOf xs 0 .e)) h k = true) {v : PV}
    (hk : ∀ o, k o = true → (∀ i, o.x ≠ .exit i) ∧ PI.results T o.ρ o.h fn.results.toList = some v) :
    Calls P f vs.toArray w fun e w' => ∃ v' W' h', e = .returned v' ∧ Rel W' w' v v' ∧ Goes C h W w h' W' w' := by
  intro cs
  let b0 : Frame := { (default : Frame) with fn := f, kind := .normal }
  let a0 : Act := { tmps := vs.toArray ++ Array.replicate (fn.ntmps - vs.length) undef, defers := [] }
  have henter : Frame.enter P f vs.toArray .normal = put b0 a0 [.code body] := by
    simp [Frame.enter, put, hf, hb, b0, a0]
    rfl
  have hst : St C W w h (regsOf xs 0 .e) b0 a0 := ⟨hh, by rw [hnt]; exact regs_enter has hl hwd, hme.symm, rfl, by rw [hrd]; rfl⟩
  obtain ⟨o, hko, W', w', a', hfin⟩ := (all_sim hE hP n).1 C body _ h k hrun W w b0 a0 [] cs _ hst (.inl rfl)
  obtain ⟨hx, hv⟩ := hk o hko
  obtain ⟨ds, hd1, hd2, _⟩ := hfin.marks
  obtain ⟨fr, hfr, hfm, hfk, hfd, hff, hft⟩ : ∃ fr : Frame, Steps P (lone (Frame.enter P f vs.toArray .normal) cs w) (lone fr cs w') ∧ fr.mode = .returning ∧ fr.kind = .normal ∧ fr.defers = ds ∧ fr.fn = f ∧ fr.tmps = a'.tmps := by
    have harr := hfin.arr
    rw [henter]
    have hd3 : a'.defers = ds := by rw [hd1]; simp [a0]
    cases hox : o.x with
    | norm =>
      rw [hox] at harr
      exact ⟨{ put b0 a' [] with mode := .returning }, harr.trans (.one (s_end rfl)), rfl, rfl, hd3, rfl, rfl⟩
    | exit i => exact absurd hox (hx i)
    | ret =>
      rw [hox] at harr
      obtain ⟨K1, h1⟩ := harr
      exact ⟨{ put b0 a' (.code .ret :: K1) with mode := .returning }, h1.trans (.one (s_ret rfl)), rfl, rfl, hd3, rfl, rfl⟩
  obtain ⟨w2, hs2, ht⟩ := take_all (P := P) (cs := cs) (fr := fr) hd2 hfm hfd
  have hg := hfin.go.took ht
  obtain ⟨v', hv1, hv2⟩ := results_rel hE.ty hg.rel (hfin.regs.mon ht.mon) hv
  refine ⟨.returned v', w2, { fr with defers := [] }, ⟨v', W', o.h, rfl, hv2, hg⟩, hfr.trans hs2, hff, hfm, rfl, hfk, fn, ?_, ?_⟩
  · show P.funcs[fr.fn]? = some fn
    rw [hff]; exact hf
  · show (Go.results fn fr.tmps).run P w2 = .ok v' w2
    rw [hft]; exact hv1
/-- No rows. -/
def Wd.zero : Wd := ⟨fun _ => Option.none, 0, fun _ => False, fun _ => False⟩
theorem hrel_zero (w : World) : HRel Wd.zero w ⟨[]⟩ where
  n := rfl
  rows r po hr := by simp at hr
  lt r x hx := by cases hx
  inj r r' x x' hx := by cases hx
  dead r hd := hd.elim
  offlt b hb := hb.elim
  offno r x hx := by cases hx
theorem imm_zero {b : Nat} (hb : b < w.heap.size) : Imm Wd.zero w b := by
  refine ⟨hb, ?_, fun h => h⟩
  intro r x hx; cases hx
theorem Goes.below {C : Cx} {h' : H} (g : Goes C h Wd.zero w h' W' w') : Below w.heap.size w w' :=
  ⟨g.ext.os, g.ext.tape, g.ext.output, g.ext.size, fun k hk => g.ext.same k hk (by intro r x hx; cases hx)⟩
/-- A law's call: PI says that it comes to true. -/
def lawK (T : Pg) (rs : List ResultVar) (o : Out) : Bool :=
  match o.x with
  | .exit _ => false
  | _ => match PI.results T o.ρ o.h rs with
    | some (.lit (.bool b)) => b
    | _ => false
theorem law_calls (hE : Env P T) (hP : P.follows .mixedOrders = true) {f : FuncId} {fn : Func} {body : Code} (hf : P.funcs[f]? = some fn) (hb : fn.body = some body) {xs : List PV} {vs : List Value} (has : RelL Wd.zero w xs vs)
    (hl : xs.length ≤ fn.ntmps) (hwd : fn.ntmps ≤ wide) (hrun : run T n ⟨f, fn.ntmps, 0, [], false, none⟩ (.code body (regsOf xs 0 .e)) ⟨[]⟩ (lawK T fn.results.toList) = true) :
    Calls P f vs.toArray w fun e w' => e = .returned (.bool true) ∧ Below w.heap.size w w' := by
  refine (top_calls hE hP hf hb (hrel_zero w) has hl hwd rfl rfl rfl hrun (v := .lit (.bool true)) (fun o ho => ?_)).mono fun e w' ⟨v', W', h', he, hv, hg⟩ => ⟨?_, hg.below⟩
  · unfold lawK at ho
    split at ho
    · cases ho
    · rename_i hx
      refine ⟨fun i hi => hx i hi, ?_⟩
      split at ho
      · rename_i b hb
        subst ho; exact hb
      · cases ho
  · simp only [Rel] at hv
    rw [he, hv.1]
end
end Go.PI
namespace Go.PI
/-! ### the program's own types -/
def oneB : Value → Bool
  | .agg _ | .tuple _ => false
  | _ => true
def aggB : Value → Bool
  | .agg _ => true
  | _ => false
def tyB (types : Array TypeInfo) (t : Nat) : Bool :=
  match types[t]? with
  | none => true
  | some i => match i.zero with
    | none => true
    | some z => match tiOf types t with
      | none => true
      | some ti => Nat.beq ti.zero.length ti.sz && (ti.zero.all oneB && ((aggB z == ti.agg) && ((match i.desc with
        | .named _ u => Nat.blt u types.size
        | _ => true) && match ti.d with
        | .st fs => fs.all fun f => Nat.blt f.2 types.size
        | _ => true)))
theorem td_of (d : TypeDesc) : TdOk (tdOf d) d := by
  cases d <;> simp [tdOf, TdOk]
theorem tiOf_ok {P : Program} (hb : (List.range P.types.size).all (tyB P.types) = true) {pure : FuncId → FuncId → Bool} {fn : FuncId → Option Func} {sum : FuncId → Option (List PV → H → Option PV)} : TyS P ⟨fn, tiOf P.types, pure, sum⟩ := by
  intro t ti ht
  simp only at ht
  have ht0 := ht
  unfold tiOf at ht
  split at ht
  · cases ht
  rename_i i hi
  have hlt : t < P.types.size := (Array.getElem?_eq_some_iff.1 hi).1
  have hinfo : P.info? t = some i := by
    show P.toTables.info? t = some i
    unfold Tables.info?
    rw [if_pos hlt, hi]
  have h1 := List.all_eq_true.1 hb t (by simpa using hlt)
  unfold tyB at h1
  rw [hi] at h1
  simp only at h1 ht
  cases hz : i.zero with
  | none => rw [hz] at ht; cases ht
  | some z =>
    rw [hz, ht0] at h1
    rw [hz] at ht
    simp only at ht
    cases htu : tupB z with
    | true => rw [htu] at ht; cases ht
    | false =>
    rw [htu] at ht
    simp only [cond_false] at ht
    simp only [Bool.and_eq_true] at h1
    obtain ⟨h2, h3, h4, h5, h6⟩ := h1
    injection ht with ht
    have hzero : z.cells.toList = ti.zero := by rw [← ht]
    have hsz : i.size = ti.sz := by rw [← ht]
    have hby : i.bytes = ti.byt := by rw [← ht]
    have hund : ∃ u, P.underlying t = some u ∧ TdOk ti.d u := by
      unfold Program.underlying
      rw [hinfo]
      obtain ⟨desc, str, size, bytes, hasPointers, align, fieldAlign, zero, comparable, methods⟩ := i
      cases desc with
      | named nm u =>
        simp only at h5 ht ⊢
        have hu : u < P.types.size := Nat.blt_eq ▸ h5
        have hui : P.info? u = some P.types[u] := by
          show P.toTables.info? u = _
          unfold Tables.info?
          rw [if_pos hu, Array.getElem?_eq_getElem hu]
        rw [hui]
        refine ⟨_, rfl, ?_⟩
        rw [← ht, Array.getElem?_eq_getElem hu]
        dsimp only; exact td_of _
      | _ =>
        simp only at ht ⊢
        refine ⟨_, rfl, ?_⟩
        rw [← ht]
        dsimp only; exact td_of _
    refine ⟨⟨i, hinfo, hsz, hby, z, hz, hzero, fun ha => ?_, fun ha => ?_⟩, hund, Nat.eq_of_beq_eq_true h2, fun v hv => ?_, fun fields hf f hfm => ?_⟩
    · rw [ha] at h4
      cases z <;> simp [aggB] at h4
      rw [← hzero]; rfl
    · rw [ha] at h4
      rw [← hzero]
      cases z <;> first | rfl | simp [aggB] at h4 | (exfalso; rw [← hzero] at h3; simp [Value.cells, oneB] at h3)
    · have := List.all_eq_true.1 h3 v hv
      cases v <;> first | rfl | (simp [oneB] at this)
    · obtain ⟨u, hu, hok⟩ := hund
      rw [hu] at hf
      injection hf with hf
      subst hf
      cases hd : ti.d <;> rw [hd] at hok h6 <;> simp only [TdOk] at hok <;> (try (cases hok; done))
      case st fs =>
        obtain ⟨fl, hfl, hfs⟩ := hok
        injection hfl with hfl; subst hfl
        have hm : (f.offset, f.type) ∈ fs := by rw [← hfs]; exact List.mem_map_of_mem hfm
        have := List.all_eq_true.1 h6 _ hm
        have hlt2 : f.type < P.types.size := Nat.blt_eq ▸ this
        show (P.toTables.info? f.type).isSome = true
        unfold Tables.info?
        rw [if_pos hlt2, Array.getElem?_eq_getElem hlt2]; rfl
      case fn => obtain ⟨a, b, c, hok⟩ := hok; cases hok
      case other => exact absurd rfl (hok.1 fields)
end Go.PI
