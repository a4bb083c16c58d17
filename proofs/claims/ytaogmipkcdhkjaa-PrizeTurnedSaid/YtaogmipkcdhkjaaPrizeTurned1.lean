/- A part of the proof that proves PrizeTurned: for every input the statement returns true and its arguments read as before. No conditions. -/
import Derived.Calls
import Derived.Defers
import Derived.Recover
import Derived.Below
import Derived.Laws.OwnMore
import Derived.Laws.CopyRow
import Derived.IntWalk
import Derived.Maps.AppendAt
import Derived.Orders
import Derived.KernelRfl
import Derived.Laws.IdiomCopy
import Derived.Test.YtaogmipkcdhkjaaProg
import Derived.WalkKit
section
namespace Go.Sx
open Go.RowKit

/-! ### Machines that come to something -/
def Ev (P : Program) (m : Machine) (Φ : Machine → Prop) : Prop := ∃ m', Steps P m m' ∧ Φ m'

theorem Ev.here {P : Program} {m : Machine} {Φ : Machine → Prop} (h : Φ m) : Ev P m Φ := ⟨m, .refl P m, h⟩
theorem Ev.step {P : Program} {m m₁ : Machine} {Φ : Machine → Prop} (h : step P m = .next m₁) (e : Ev P m₁ Φ) : Ev P m Φ :=
  let ⟨m', s, q⟩ := e; ⟨m', .head h s, q⟩
theorem Ev.steps {P : Program} {m m₁ : Machine} {Φ : Machine → Prop} (h : Steps P m m₁) (e : Ev P m₁ Φ) : Ev P m Φ :=
  let ⟨m', s, q⟩ := e; ⟨m', h.trans s, q⟩

/-- a running frame: fn, kind and roundOf are the base's -/
def fr (b : Frame) (T : Array Value) (D : List Deferred) (todo : List Item) : Frame :=
  { b with tmps := T, defers := D, todo := todo, mode := .run }

def At (P : Program) (Φ : Machine → Prop) (b : Frame) (cs : List Frame) (D : List Deferred) (todo : List Item) (T : Array Value) (w : World) : Prop :=
  Ev P (lone (fr b T D todo) cs w) Φ

def evT (T : Array Value) : Operand → Value
  | .tmp t => T.getD t undef
  | .const v => v
  | .global g => .pointer (some ⟨g, 0, none⟩)
  | .func f => .func (.func f) #[] #[]

theorem eval_fr (b : Frame) (T : Array Value) (D : List Deferred) (todo : List Item) : (fr b T D todo).eval = evT T := by
  funext x; cases x <;> rfl

def putT (T : Array Value) (d : Option Tmp) (v : Value) : Array Value :=
  match d with
  | some d => T.setIfInBounds d v
  | none => T

section code
variable {P : Program} {Φ : Machine → Prop} {b : Frame} {cs : List Frame} {D : List Deferred} {k : List Item} {T : Array Value} {w : World}

theorem At.skip (h : At P Φ b cs D k T w) : At P Φ b cs D (.code .skip :: k) T w :=
  Ev.step (step_lone_go (by simp [stepG, stepG.exec, fr])) h
theorem At.label {l : Nat} (h : At P Φ b cs D k T w) : At P Φ b cs D (.code (.label l) :: k) T w :=
  Ev.step (step_lone_go (by simp [stepG, stepG.exec, fr])) h
theorem At.inBlock {id : Nat} (h : At P Φ b cs D k T w) : At P Φ b cs D (.inBlock id :: k) T w :=
  Ev.step (step_lone_go (by simp [stepG, stepG.exec, fr])) h
theorem At.inScope {c : Code} (h : At P Φ b cs D k T w) : At P Φ b cs D (.inScope c :: k) T w :=
  Ev.step (step_lone_go (by simp [stepG, stepG.exec, fr])) h
theorem At.seq {x y : Code} (h : At P Φ b cs D (.code x :: .code y :: k) T w) : At P Φ b cs D (.code (.seq x y) :: k) T w :=
  Ev.step (step_lone_go (by simp [stepG, stepG.exec, fr])) h
theorem At.block {id : Nat} {c : Code} (h : At P Φ b cs D (.code c :: .inBlock id :: k) T w) : At P Φ b cs D (.code (.block id c) :: k) T w :=
  Ev.step (step_lone_go (by simp [stepG, stepG.exec, fr])) h
theorem At.scope {c : Code} (h : At P Φ b cs D (.code c :: .inScope c :: k) T w) : At P Φ b cs D (.code (.scope c) :: k) T w :=
  Ev.step (step_lone_go (by simp [stepG, stepG.exec, fr])) h
theorem At.loop1 {c : Code} (h : At P Φ b cs D (.code c :: .inLoop c :: k) T w) : At P Φ b cs D (.code (.loop c) :: k) T w :=
  Ev.step (step_lone_go (by simp [stepG, stepG.exec, fr])) h
theorem At.inLoop {c : Code} (h : At P Φ b cs D (.code c :: .inLoop c :: k) T w) : At P Φ b cs D (.inLoop c :: k) T w :=
  Ev.step (step_lone_go (by simp [stepG, stepG.exec, fr])) h
theorem At.exit {id : Nat} {k' : List Item} (hx : exitTo id k = some k') (h : At P Φ b cs D k' T w) : At P Φ b cs D (.code (.exit id) :: k) T w :=
  Ev.step (step_lone_go (by simp [stepG, stepG.exec, fr, hx])) h
theorem At.goto {l : Nat} {k' : List Item} (hx : gotoIn l k = some k') (h : At P Φ b cs D k' T w) : At P Φ b cs D (.code (.goto l) :: k) T w :=
  Ev.step (step_lone_go (by simp [stepG, stepG.exec, fr, hx])) h
theorem At.cond {c : Operand} {x y : Code} {t : Bool} (hc : evT T c = .bool t) (h : At P Φ b cs D (.code (if t then x else y) :: k) T w) :
    At P Φ b cs D (.code (.cond c x y) :: k) T w :=
  Ev.step (step_lone_go (by
    have he := congrFun (eval_fr b T D (.code (.cond c x y) :: k)) c
    simp only [fr] at he
    simp [stepG, stepG.exec, fr, he, hc])) h
theorem At.region {id : Nat} {ops : Array Oper} (h : At P Φ b cs D (.inRegion ops (List.range ops.size) :: k) T w) :
    At P Φ b cs D (.code (.region id ops false) :: k) T w :=
  Ev.step (step_lone_go (by simp [stepG, stepG.exec, fr])) h
theorem At.regionD {id : Nat} {ops : Array Oper}
    (h : ∀ t, At P Φ b cs D (.inRegion ops (Region.schedule (P.follows .mixedOrders) ops t) :: k) T { w with drawn := w.drawn + 1 }) :
    At P Φ b cs D (.code (.region id ops true) :: k) T w :=
  Ev.step (m₁ := lone (fr b T D (.inRegion ops (Region.schedule (P.follows .mixedOrders) ops (w.tape w.drawn (.order b.fn id))) :: k)) cs { w with drawn := w.drawn + 1 })
    (step_lone_go (by simp [stepG, stepG.exec, fr, choose, Sem.run, Question.forced, Question.cut])) (h _)
theorem At.regionEnd {ops : Array Oper} (h : At P Φ b cs D k T w) : At P Φ b cs D (.inRegion ops [] :: k) T w :=
  Ev.step (step_lone_go (by simp [stepG, stepG.exec, fr])) h

theorem finish_fr {ops : Array Oper} {i : Nat} {rest : List Nat} {o : Oper} (ho : ops[i]? = some o) (v : Value) :
    (fr b T D (.inRegion ops (i :: rest) :: k)).finish v = fr b (putT T o.dst v) D (.inRegion ops rest :: k) := by
  cases h : o.dst <;> simp [Frame.finish, fr, putT, ho, h]

theorem At.opSkip {ops : Array Oper} {i : Nat} {rest : List Nat} {o : Oper} (ho : ops[i]? = some o) (hw : Region.wanted o (yielded ops T) = false)
    (h : At P Φ b cs D (.inRegion ops rest :: k) (putT T o.dst undef) w) : At P Φ b cs D (.inRegion ops (i :: rest) :: k) T w :=
  Ev.step (step_lone_go (by
    have hf := finish_fr (b := b) (T := T) (D := D) (k := k) (rest := rest) ho undef
    rw [← hf]
    simp only [fr]
    simp [stepG, stepG.exec, ho, hw])) h

/-- an operation that is no 'defer' -/
def noDefer : Op → Bool
  | .defer _ => false
  | _ => true

theorem stepG_op' {ops : Array Oper} {i : Nat} {rest : List Nat} {o : Oper} (ho : ops[i]? = some o) (hw : Region.wanted o (yielded ops T) = true) (hn : noDefer o.op = true) :
    stepG P true { frame := fr b T D (.inRegion ops (i :: rest) :: k), callers := cs, status := .running, dying := none } w =
      stepG.apply P true (fr b T D (.inRegion ops (i :: rest) :: k)) cs none (execOp (evT T) o) w := by
  have he := eval_fr b T D (.inRegion ops (i :: rest) :: k)
  simp only [fr] at he
  cases hop : o.op with
  | defer c => simp [hop, noDefer] at hn
  | _ => simp [stepG, stepG.exec, stepG.oper, Frame.oper?, fr, ho, hw, he, hop]

theorem At.op {ops : Array Oper} {i : Nat} {rest : List Nat} {o : Oper} {v : Value} {w' : World} (ho : ops[i]? = some o) (hw : Region.wanted o (yielded ops T) = true)
    (hn : noDefer o.op = true) (hr : (execOp (evT T) o).run P w = .ok (.value v) w') (h : At P Φ b cs D (.inRegion ops rest :: k) (putT T o.dst v) w') :
    At P Φ b cs D (.inRegion ops (i :: rest) :: k) T w :=
  Ev.step (step_lone_go (by rw [stepG_op' ho hw hn, ← finish_fr ho]; simp [stepG.apply, hr])) h
theorem At.opS {ops : Array Oper} {i : Nat} {rest : List Nat} {o : Oper} {w' : World} (ho : ops[i]? = some o) (hw : Region.wanted o (yielded ops T) = true)
    (hn : noDefer o.op = true) (hr : (execOp (evT T) o).run P w = .ok .skip w') (h : At P Φ b cs D (.inRegion ops rest :: k) (putT T o.dst undef) w') :
    At P Φ b cs D (.inRegion ops (i :: rest) :: k) T w :=
  Ev.step (step_lone_go (by rw [stepG_op' ho hw hn, ← finish_fr ho]; simp [stepG.apply, hr])) h
end code
end Go.Sx
end
section
namespace Go.Sx
open Go.RowKit

/-- a frame that panics -/
def Pan (P : Program) (Φ : Machine → Prop) (b : Frame) (cs : List Frame) (D : List Deferred) (T : Array Value) (w : World) (chain : List PanicEntry) : Prop :=
  ∀ todo, Ev P (lone { fr b T D todo with mode := .panicking chain } cs w) Φ

/-- a frame that leaves -/
def Lea (P : Program) (Φ : Machine → Prop) (b : Frame) (cs : List Frame) (D : List Deferred) (T : Array Value) (w : World) : Prop :=
  ∀ todo, Ev P (lone { fr b T D todo with mode := .returning } cs w) Φ

/-- what a function's body comes to -/
def Lv (P : Program) (f : FuncId) (cs : List Frame) (R : Ending → World → Prop) (m : Machine) : Prop :=
  ∃ e w' fr', R e w' ∧ m = lone fr' cs w' ∧ fr'.fn = f ∧ fr'.leaving P w' e ∧ e ≠ .outgrown

def base (f : FuncId) : Frame := { (default : Frame) with fn := f, kind := .normal }
def baseD (f : FuncId) : Frame := { (default : Frame) with fn := f, kind := .deferred }

theorem calls_of_at {P : Program} {f : FuncId} {fn : Func} {c : Code} {args : Array Value} {w : World} {R : Ending → World → Prop}
    (hf : P.funcs[f]? = some fn) (hb : fn.body = some c)
    (h : ∀ cs, At P (Lv P f cs R) (base f) cs [] [.code c] (args ++ Array.replicate (fn.ntmps - args.size) undef) w) : Calls P f args w R := by
  intro cs
  have henter : Frame.enter P f args .normal = fr (base f) (args ++ Array.replicate (fn.ntmps - args.size) undef) [] [.code c] := by
    simp [Frame.enter, fr, base, hf, hb]
    rfl
  obtain ⟨m', hs, e, w', fr', hR, rfl, hfn, hl, he⟩ := h cs
  rw [henter]
  refine ⟨e, w', fr', hR, ?_, hfn, hl⟩
  cases e with
  | outgrown => exact absurd rfl he
  | returned v => exact hs
  | panicked ch => exact hs

section
variable {P : Program} {Φ : Machine → Prop} {b : Frame} {cs : List Frame} {D : List Deferred} {k : List Item} {T : Array Value} {w : World}

theorem At.ret (hr : b.roundOf = none) (h : Lea P Φ b cs D T w) : At P Φ b cs D (.code .ret :: k) T w :=
  Ev.step (step_lone_go (by simp [stepG, stepG.exec, fr, hr])) (h (.code .ret :: k))
theorem At.fin (hr : b.roundOf = none) (h : Lea P Φ b cs D T w) : At P Φ b cs D [] T w :=
  Ev.step (step_lone_go (by simp [stepG, stepG.exec, fr, hr])) (h [])

theorem Lea.here {f : FuncId} {R : Ending → World → Prop} {fn : Func} {v : Value} (hb : b.fn = f) (hk : b.kind = .normal) (hf : P.funcs[f]? = some fn)
    (hv : (results fn T).run P w = .ok v w) (hR : R (.returned v) w) : Lea P (Lv P f cs R) b cs [] T w :=
  fun todo => Ev.here ⟨.returned v, w, _, hR, rfl, hb, ⟨rfl, rfl, hk, fn, by subst hb; exact hf, hv⟩, by simp⟩
theorem Pan.here {f : FuncId} {R : Ending → World → Prop} {fn : Func} {chain : List PanicEntry} (hb : b.fn = f) (hf : P.funcs[f]? = some fn)
    (hR : R (.panicked chain) w) : Pan P (Lv P f cs R) b cs [] T w chain :=
  fun todo => Ev.here ⟨.panicked chain, w, _, hR, rfl, hb, ⟨rfl, rfl, fn, by subst hb; exact hf⟩, by simp⟩

/-- how a call goes on -/
def Res (P : Program) (Φ : Machine → Prop) (b : Frame) (cs : List Frame) (D : List Deferred) (todo : List Item) (T : Array Value) (d : Option Tmp) : Ending → World → Prop
  | .returned v, w => At P Φ b cs D todo (putT T d v) w
  | .panicked chain, w => Pan P Φ b cs D T w chain
  | .outgrown, _ => False

theorem At.call {ops : Array Oper} {i : Nat} {rest : List Nat} {o : Oper} {f : FuncId} {args : Array Value} {w1 : World} {R : Ending → World → Prop}
    (ho : ops[i]? = some o) (hw : Region.wanted o (yielded ops T) = true) (hn : noDefer o.op = true)
    (hr : (execOp (evT T) o).run P w = .ok (.enter f args) w1) (hc : Calls P f args w1 R)
    (h : ∀ e w2, R e w2 → Res P Φ b cs D (.inRegion ops rest :: k) T o.dst e w2) : At P Φ b cs D (.inRegion ops (i :: rest) :: k) T w := by
  obtain ⟨e, w2, fr', hR, hs, hfn, hl⟩ := hc (fr b T D (.inRegion ops (i :: rest) :: k) :: cs)
  have h1 : step P (lone (fr b T D (.inRegion ops (i :: rest) :: k)) cs w) = .next (lone (Frame.enter P f args .normal) (fr b T D (.inRegion ops (i :: rest) :: k) :: cs) w1) :=
    step_lone_go (by rw [stepG_op' ho hw hn]; simp [stepG.apply, hr, fr])
  have h2 := h e w2 hR
  cases e with
  | returned v =>
    refine Ev.steps (.head h1 (Steps.trans hs (.one (step_leave_returned hl)))) ?_
    rw [finish_fr ho]
    exact h2
  | panicked ch =>
    refine Ev.steps (.head h1 (Steps.trans hs (.one (step_leave_panicked hl)))) ?_
    exact h2 (.inRegion ops (i :: rest) :: k)
  | outgrown => exact h2.elim

/-- a panic of an operation -/
theorem At.panic {ops : Array Oper} {i : Nat} {rest : List Nat} {o : Oper} {v : Value} {w' : World}
    (ho : ops[i]? = some o) (hw : Region.wanted o (yielded ops T) = true) (hn : noDefer o.op = true)
    (hr : (execOp (evT T) o).run P w = .halt (.panic v) w') (h : Pan P Φ b cs D T w' [{ v, recovered := false }]) : At P Φ b cs D (.inRegion ops (i :: rest) :: k) T w :=
  Ev.step (m₁ := lone { fr b T D (.inRegion ops (i :: rest) :: k) with mode := .panicking [{ v, recovered := false }] } cs w')
    (step_lone_go (by rw [stepG_op' ho hw hn]; simp [stepG.apply, hr, Frame.raise, fr])) (h _)

/-- a 'defer' outside the rounds of a loop over a function -/
theorem stepG_opN {ops : Array Oper} {i : Nat} {rest : List Nat} {o : Oper} (hro : b.roundOf = none) (ho : ops[i]? = some o) (hw : Region.wanted o (yielded ops T) = true) :
    stepG P true { frame := fr b T D (.inRegion ops (i :: rest) :: k), callers := cs, status := .running, dying := none } w =
      stepG.apply P true (fr b T D (.inRegion ops (i :: rest) :: k)) cs none (execOp (evT T) o) w := by
  have he := eval_fr b T D (.inRegion ops (i :: rest) :: k)
  have hro' : (fr b T D (.inRegion ops (i :: rest) :: k)).roundOf = none := hro
  generalize hF : fr b T D (.inRegion ops (i :: rest) :: k) = F at *
  have h1 : F.todo = .inRegion ops (i :: rest) :: k := by rw [← hF]; rfl
  have h2 : F.tmps = T := by rw [← hF]; rfl
  have h3 : F.mode = .run := by rw [← hF]; rfl
  simp [stepG, h3, stepG.exec, h1, h2, ho, hw, stepG.oper, Frame.oper?, hro', he]

theorem At.defer {ops : Array Oper} {i : Nat} {rest : List Nat} {o : Oper} {d : Deferred} {w' : World} (hro : b.roundOf = none)
    (ho : ops[i]? = some o) (hw : Region.wanted o (yielded ops T) = true) (hd : o.dst = none)
    (hr : (execOp (evT T) o).run P w = .ok (.defer d) w') (h : At P Φ b cs (d :: D) (.inRegion ops rest :: k) T w') : At P Φ b cs D (.inRegion ops (i :: rest) :: k) T w :=
  Ev.step (step_lone_go (by
    rw [stepG_opN hro ho hw]
    have hf := finish_fr (b := b) (T := T) (D := d :: D) (k := k) (rest := rest) ho undef
    simp only [hd, putT] at hf
    rw [← hf]
    simp [stepG.apply, hr]
    simp [fr])) h
end

/-! ### Function values -/
/-- a round of a loop over a function, as the iterator calls it -/
def Rounds (P : Program) (l : Nat) (f : FuncId) (tmps : Array Value) (assign body : Code) (w : World) (R : Ending → World → Prop) : Prop :=
  ∀ (c : Frame) (cs : List Frame), ∃ e w', R e w' ∧ match e with
    | .returned v => Steps P (lone (Frame.round l f tmps assign body .normal) (c :: cs) w) (lone (c.finish v) cs w')
    | .panicked chain => Steps P (lone (Frame.round l f tmps assign body .normal) (c :: cs) w) (lone (c.raise chain) cs w')
    | .outgrown => False

def callV (fv : Value) (args : Array Value) : Sem Next := do let d ← Deferred.ofValue fv args; invoke d.target d.args

/-- a call of a function value -/
def CallsV (P : Program) (fv : Value) (args : Array Value) (w : World) (R : Ending → World → Prop) : Prop :=
  match (callV fv args).run P w with
  | .ok (.enter f a) w1 => Calls P f a w1 R
  | .ok (.round l f tmps assign body) w1 => Rounds P l f tmps assign body w1 R
  | _ => False

theorem CallsV.mono {P : Program} {fv : Value} {args : Array Value} {w : World} {R R' : Ending → World → Prop} (h : CallsV P fv args w R) (hr : ∀ e w', R e w' → R' e w') : CallsV P fv args w R' := by
  unfold CallsV at h ⊢
  split
  · simp_all; exact h.mono hr
  · simp_all
    intro c cs
    obtain ⟨e, w', hR, hs⟩ := h c cs
    exact ⟨e, w', hr _ _ hR, hs⟩
  · simp_all

section
variable {P : Program} {Φ : Machine → Prop} {b : Frame} {cs : List Frame} {D : List Deferred} {k : List Item} {T : Array Value} {w : World}

theorem At.callV {ops : Array Oper} {i : Nat} {rest : List Nat} {o : Oper} {f : Operand} {xs : Array Operand} {ts : Array TypeId} {fv : Value} {args : Array Value} {R : Ending → World → Prop}
    (ho : ops[i]? = some o) (hw : Region.wanted o (yielded ops T) = true) (hop : o.op = .call { callee := .value f, args := xs, argTypes := ts })
    (hf : evT T f = fv) (ha : xs.map (evT T) = args) (hc : CallsV P fv args w R)
    (h : ∀ e w2, R e w2 → Res P Φ b cs D (.inRegion ops rest :: k) T o.dst e w2) : At P Φ b cs D (.inRegion ops (i :: rest) :: k) T w := by
  have hn : noDefer o.op = true := by rw [hop]; rfl
  have hr : (execOp (evT T) o).run P w = (Sx.callV fv args).run P w := by
    subst hf ha
    unfold execOp
    rw [hop]
    rfl
  unfold CallsV at hc
  split at hc
  · rename_i g a w1 hrun
    exact At.call ho hw hn (hr.trans hrun) hc h
  · rename_i l g tmps assign body w1 hrun
    obtain ⟨e, w2, hR, hs⟩ := hc (fr b T D (.inRegion ops (i :: rest) :: k)) cs
    have h1 : step P (lone (fr b T D (.inRegion ops (i :: rest) :: k)) cs w) = .next (lone (Frame.round l g tmps assign body .normal) (fr b T D (.inRegion ops (i :: rest) :: k) :: cs) w1) :=
      step_lone_go (by rw [stepG_op' ho hw hn]; simp [stepG.apply, hr, hrun, fr])
    have h2 := h e w2 hR
    cases e with
    | returned v =>
      refine Ev.steps (.head h1 hs) ?_
      rw [finish_fr ho]
      exact h2
    | panicked ch =>
      refine Ev.steps (.head h1 hs) ?_
      exact h2 (.inRegion ops (i :: rest) :: k)
    | outgrown => exact h2.elim
  · exact hc.elim

/-- a function with a body -/
def hasBody (P : Program) (f : FuncId) : Prop := ∃ fn, P.funcs[f]? = some fn ∧ (fn.name == "runtime.NumGoroutine") = false ∧ fn.body.isSome = true

theorem run_callFunc {f : FuncId} (h : hasBody P f) (args : Array Value) (w : World) : (callFunc f args).run P w = .ok (.enter f args) w := by
  obtain ⟨fn, h1, h2, h3⟩ := h
  have h4 : fn.body.isNone = false := by cases hb : fn.body <;> simp_all
  simp only [callFunc, Sem.run_bind, run_program, Result.andThen_ok, h1, h2, h4]
  rfl

theorem CallsV.func {f : FuncId} {fst cap args : Array Value} {R : Ending → World → Prop} (hb : hasBody P f) (h : Calls P f (fst ++ args ++ cap) w R) : CallsV P (.func (.func f) fst cap) args w R := by
  have hr : (Sx.callV (.func (.func f) fst cap) args).run P w = .ok (.enter f (fst ++ args ++ cap)) w := by
    simp only [Sx.callV, Deferred.ofValue, Sem.run_bind, Sem.run_pure, Result.andThen_ok, invoke]
    exact run_callFunc hb _ _
  unfold CallsV
  rw [hr]
  exact h
end
end Go.Sx
end
section
namespace Go.Sx
open Go.RowKit

def setO (w : World) (r : Nat) (o : Obj) : World := { w with heap := w.heap.setIfInBounds r o }
abbrev newO (w : World) (o : Obj) : World := w.alloc o

section
variable {P : Program} {Φ : Machine → Prop} {b : Frame} {cs : List Frame} {D : List Deferred} {k : List Item} {T : Array Value} {w : World}

/-! ### Rounds of a loop over a function -/
def baseR (f : FuncId) (l : Nat) : Frame := { (default : Frame) with fn := f, kind := .normal, roundOf := some l }

theorem rounds_of_at {l : Nat} {f : FuncId} {assign body : Code} {R : Ending → World → Prop}
    (h : ∀ (c : Frame) (cs : List Frame), At P (fun m => ∃ v w', R (.returned v) w' ∧ m = lone (c.finish v) cs w') (baseR f l) (c :: cs) [] [.code assign, .beginRound, .code body] T w) :
    Rounds P l f T assign body w R := by
  intro c cs
  obtain ⟨m', hs, v, w', hR, rfl⟩ := h c cs
  exact ⟨.returned v, w', hR, hs⟩

theorem run_getObj_loop {l : Nat} {r : Loop} (h : w.heap[l]? = some (.loop r)) : (Instr.getLoop l).run P w = .ok r w := by
  simp [Instr.getLoop, getObj, Sem.run, h]

theorem run_setObj_loop {l : Nat} {r : Loop} (h : w.heap[l]? = some (.loop r)) (o : Obj) : (setObj l o).run P w = .ok () (setO w l o) := by
  simp [setObj, Sem.run, h, setO]

theorem At.beginRound {l : Nat} {r : Loop} (hro : b.roundOf = some l) (h : w.heap[l]? = some (.loop r)) (hs : r.state = .ready)
    (hk : At P Φ b cs D k T (setO w l (.loop { r with state := .busy }))) : At P Φ b cs D (.beginRound :: k) T w := by
  refine Ev.step (step_lone_go ?_) hk
  have hro' : (fr b T D (.beginRound :: k)).roundOf = some l := hro
  have hrun : (do (some l).elim (stuck "beginRound: no round") Instr.beginRound; pure .skip : Sem Next).run P w = .ok .skip (setO w l (.loop { r with state := .busy })) := by
    simp only [Option.elim, Instr.beginRound, Sem.run_bind, run_getObj_loop h, Result.andThen_ok, run_setObj_loop h, hs]
    rfl
  have hst : stepG P true { frame := fr b T D (.beginRound :: k), callers := cs, status := .running, dying := none } w =
      stepG.apply P true (fr b T D (.beginRound :: k)) cs none (do (some l).elim (stuck "beginRound: no round") Instr.beginRound; pure .skip) w := by
    generalize hF : fr b T D (.beginRound :: k) = F at *
    have h1 : F.todo = .beginRound :: k := by rw [← hF]; rfl
    have h3 : F.mode = .run := by rw [← hF]; rfl
    simp only [stepG, h3, stepG.exec, h1, hro']
  rw [hst]
  simp only [stepG.apply, Sem.runT_eq, hrun, if_true, GStep.bare_after, GStep.bare_go]
  rfl

/-- how a round leaves: 'none': it goes on -/
theorem At.leaveRound {l : Nat} {r : Loop} {c : Frame} {jump : Option Code} {todo : List Item} (hro : b.roundOf = some l) (hkd : b.kind = .normal) (h : w.heap[l]? = some (.loop r))
    (ht : todo = [] ∧ jump = none ∨ (∃ k', todo = .code .ret :: k' ∧ jump = some .ret) ∨ ∃ id k', todo = .code (.exit id) :: k' ∧ exitTo id k' = none ∧ jump = some (.exit id))
    (hk : Φ (lone (c.finish (.bool jump.isNone)) cs (setO w l (.loop { r with state := if jump.isNone then .ready else .done, pending := jump })))) :
    At P Φ b (c :: cs) D todo T w := by
  refine Ev.step (step_lone_go ?_) (Ev.here hk)
  have hro' : (fr b T D todo).roundOf = some l := hro
  have hkd' : (fr b T D todo).kind = .normal := hkd
  have hrun : (Instr.endRound l jump).run P w = .ok (.bool jump.isNone) (setO w l (.loop { r with state := if jump.isNone then .ready else .done, pending := jump })) := by
    simp only [Instr.endRound, Sem.run_bind, run_getObj_loop h, Result.andThen_ok, run_setObj_loop h, Sem.run_pure]
  generalize hF : fr b T D todo = F at *
  have h1 : F.todo = todo := by rw [← hF]; rfl
  have h3 : F.mode = .run := by rw [← hF]; rfl
  rcases ht with ⟨rfl, rfl⟩ | ⟨k', rfl, rfl⟩ | ⟨id, k', rfl, hx, rfl⟩
  · simp only [stepG, h3, stepG.exec, h1, hro', Sem.runT_eq, hrun, GStep.bare_after, doReturn, hkd', GStep.bare_go]
  · simp only [stepG, h3, stepG.exec, h1, hro', Sem.runT_eq, hrun, GStep.bare_after, doReturn, hkd', GStep.bare_go]
  · simp only [stepG, h3, stepG.exec, h1, hro', Sem.runT_eq, hrun, GStep.bare_after, doReturn, hkd', GStep.bare_go, hx, Option.elim]

/-- a function value that yields -/
theorem CallsV.yield {l : Nat} {r : Loop} {args : Array Value} {R : Ending → World → Prop} (h : w.heap[l]? = some (.loop r)) (hn : args.size = r.params.size)
    (hR : Rounds P l r.fn ((r.params.zip args).foldl (fun tmps (t, a) => tmps.setIfInBounds t a) r.tmps) r.assign r.body w R) : CallsV P (.func (.yield l) #[] #[]) args w R := by
  have hr : (Sx.callV (.func (.yield l) #[] #[]) args).run P w = .ok (.round l r.fn ((r.params.zip args).foldl (fun tmps (t, a) => tmps.setIfInBounds t a) r.tmps) r.assign r.body) w := by
    simp only [Sx.callV, Deferred.ofValue, Sem.run_bind, Sem.run_pure, Result.andThen_ok, invoke, Instr.yield, Array.empty_append, run_getObj_loop h]
    simp [hn]
  unfold CallsV
  rw [hr]
  exact hR

/-! ### The loop itself, outside the rounds of another one -/
def theLoop (b : Frame) (T : Array Value) (params : Array Tmp) (assign body : Code) (d : Nat) : Loop :=
  { state := .ready, pending := none, fn := b.fn, tmps := T, params, assign, body, defers := d }
def coll (d : Nat) : Deferred := { target := .collected d, args := #[] }

theorem At.rangeFunc {f : Operand} {params : Array Tmp} {assign body : Code} {g : FuncId} {fst cap : Array Value} {R : Ending → World → Prop}
    (hro : b.roundOf = none) (hf : evT T f = .func (.func g) fst cap) (hg : hasBody P g)
    (hc : Calls P g (fst ++ #[.func (.yield (w.heap.size + 1)) #[] #[]] ++ cap)
      (newO (newO w (.deferred (some []))) (.loop (theLoop b T params assign body w.heap.size))) R)
    (h : ∀ e w2, R e w2 → match e with
      | .returned _ => At P Φ b cs (coll w.heap.size :: D) (.endRangeFunc (w.heap.size + 1) :: k) T w2
      | _ => False) :
    At P Φ b cs D (.code (.rangeFunc f params assign body) :: k) T w := by
  obtain ⟨bfn, bt, btd, bd, bm, bk, bro⟩ := b
  simp only at hro
  subst hro
  generalize hB : ({ fn := bfn, tmps := bt, todo := btd, defers := bd, mode := bm, kind := bk, roundOf := none } : Frame) = b at *
  have hro : b.roundOf = none := by rw [← hB]
  obtain ⟨e, w2, fr', hR, hs, hfn, hl⟩ := hc (fr b T (coll w.heap.size :: D) (.inRangeFunc (w.heap.size + 1) :: k) :: cs)
  have h2 := h e w2 hR
  cases e with
  | panicked ch => exact h2.elim
  | outgrown => exact h2.elim
  | returned v =>
    refine Ev.steps (.head (step_lone_go ?_) (Steps.trans hs (.one (step_leave_returned hl)))) h2
    have hro' : (fr b T D (.code (.rangeFunc f params assign body) :: k)).roundOf = none := hro
    have hev := eval_fr b T (coll w.heap.size :: D) (.inRangeFunc (w.heap.size + 1) :: k)
    have hrun : (Instr.enterLoop b.fn T params assign body none).run P w =
        .ok (w.heap.size + 1, [coll w.heap.size]) (newO (newO w (.deferred (some []))) (.loop (theLoop b T params assign body w.heap.size))) := by
      simp [Instr.enterLoop, newO, theLoop, coll]
    have hcall : (do let d ← resolve (fr b T (coll w.heap.size :: D) (.inRangeFunc (w.heap.size + 1) :: k)).eval { callee := .value f, args := #[.const (.func (.yield (w.heap.size + 1)) #[] #[])], argTypes := #[] } 0; invoke d.target d.args : Sem Next).run P
        (newO (newO w (.deferred (some []))) (.loop (theLoop b T params assign body w.heap.size))) = .ok (.enter g (fst ++ #[.func (.yield (w.heap.size + 1)) #[] #[]] ++ cap))
          (newO (newO w (.deferred (some []))) (.loop (theLoop b T params assign body w.heap.size))) := by
      have hm : (#[Operand.const (Value.func (Fn.yield (w.heap.size + 1)) #[] #[])] : Array Operand).map (evT T) = #[Value.func (Fn.yield (w.heap.size + 1)) #[] #[]] := by simp [evT]
      simp only [resolve, hev, hf, hm, Deferred.ofValue, Sem.run_bind, Sem.run_pure, Result.andThen_ok, invoke]
      exact run_callFunc hg _ _
    have hst : (stepG P true { frame := fr b T D (.code (.rangeFunc f params assign body) :: k), callers := cs, status := .running, dying := none } w).bare =
        (stepG.apply P true (fr b T (coll w.heap.size :: D) (.inRangeFunc (w.heap.size + 1) :: k)) cs none
          (do let d ← resolve (fr b T (coll w.heap.size :: D) (.inRangeFunc (w.heap.size + 1) :: k)).eval { callee := .value f, args := #[.const (.func (.yield (w.heap.size + 1)) #[] #[])], argTypes := #[] } 0; invoke d.target d.args)
          (newO (newO w (.deferred (some []))) (.loop (theLoop b T params assign body w.heap.size)))).bare := by
      have h3 : (fr b T D (.code (.rangeFunc f params assign body) :: k)).mode = .run := rfl
      have h1 : (fr b T D (.code (.rangeFunc f params assign body) :: k)).todo = .code (.rangeFunc f params assign body) :: k := rfl
      have h4 : (fr b T D (.code (.rangeFunc f params assign body) :: k)).fn = b.fn := rfl
      have h5 : (fr b T D (.code (.rangeFunc f params assign body) :: k)).tmps = T := rfl
      simp only [stepG, h3, stepG.exec, h1, hro', h4, h5, Sem.runT_eq, hrun, GStep.bare_after]
      rw [← hB]
      rfl
    rw [hst]
    simp only [stepG.apply, Sem.runT_eq, hcall, if_true, GStep.bare_after, GStep.bare_go]
    rfl

theorem At.endRangeFunc {l : Nat} {r : Loop} (h : w.heap[l]? = some (.loop r)) (hs : r.state ≠ .busy)
    (hk : At P Φ b cs D ((r.pending.map Item.code).toList ++ k) T (setO w l (.loop { r with state := .exhausted }))) : At P Φ b cs D (.endRangeFunc l :: k) T w := by
  refine Ev.step (step_lone_go ?_) hk
  have hb : (r.state == LoopState.busy) = false := by simpa using hs
  have hrun : (Instr.endLoop l).run P w = .ok r.pending (setO w l (.loop { r with state := .exhausted })) := by
    simp only [Instr.endLoop, Sem.run_bind, run_getObj_loop h, Result.andThen_ok, hb, Bool.false_eq_true, if_false, run_setObj_loop h, Sem.run_pure]
  generalize hF : fr b T D (.endRangeFunc l :: k) = F
  have h1 : F.todo = .endRangeFunc l :: k := by rw [← hF]; rfl
  have h3 : F.mode = .run := by rw [← hF]; rfl
  simp only [stepG, h3, stepG.exec, h1, Sem.runT_eq, hrun, GStep.bare_after, GStep.bare_go]
  rw [← hF]
  rfl

/-- the deferred calls of the rounds: none -/
theorem Lea.collected {d : Nat} (h : w.heap[d]? = some (.deferred (some []))) (hk : Lea P Φ b cs D T (setO w d (.deferred none))) : Lea P Φ b cs (coll d :: D) T w := by
  intro todo
  refine Ev.step (step_lone_go ?_) (hk todo)
  have hrun : (Instr.takeDeferred d).run P w = .ok [] (setO w d (.deferred none)) := by
    simp [Instr.takeDeferred, getObj, setObj, Sem.run, h, setO]
  generalize hF : ({ fr b T (coll d :: D) todo with mode := .returning } : Frame) = F
  have h1 : F.defers = coll d :: D := by rw [← hF]; rfl
  have h3 : F.mode = .returning := by rw [← hF]
  simp only [stepG, h3, unwind, h1, Sx.coll, Sem.runT_eq, hrun, GStep.bare_after, GStep.bare_go]
  rw [← hF]
  rfl

theorem Pan.collected {d : Nat} {chain : List PanicEntry} (h : w.heap[d]? = some (.deferred (some []))) (hk : Pan P Φ b cs D T (setO w d (.deferred none)) chain) : Pan P Φ b cs (coll d :: D) T w chain := by
  intro todo
  refine Ev.step (step_lone_go ?_) (hk todo)
  have hrun : (Instr.takeDeferred d).run P w = .ok [] (setO w d (.deferred none)) := by
    simp [Instr.takeDeferred, getObj, setObj, Sem.run, h, setO]
  generalize hF : ({ fr b T (coll d :: D) todo with mode := .panicking chain } : Frame) = F
  have h1 : F.defers = coll d :: D := by rw [← hF]; rfl
  have h3 : F.mode = .panicking chain := by rw [← hF]
  simp only [stepG, h3, unwind, h1, Sx.coll, Sem.runT_eq, hrun, GStep.bare_after, GStep.bare_go]
  rw [← hF]
  rfl

/-! ### Deferred calls -/
/-- a deferred call of a function: from the frame that leaves or panics (mode u) to the same frame in mode u' -/
def DefC (P : Program) (f : FuncId) (args : Array Value) (u : FrameMode) (w : World) (R : FrameMode → World → Prop) : Prop :=
  ∀ (c : Frame) (cs : List Frame), c.mode = u → ∃ u' w', R u' w' ∧ Steps P (lone (Frame.enter P f args .deferred) (c :: cs) w) (lone { c with mode := u' } cs w')

theorem Lea.defer {f : FuncId} {cap args : Array Value} {R : FrameMode → World → Prop} (hf : hasBody P f)
    (hc : DefC P f (args ++ cap) .returning w R)
    (hk : ∀ u' w', R u' w' → u' = .returning ∧ Lea P Φ b cs D T w') : Lea P Φ b cs ({ target := .fn (.func f) cap, args } :: D) T w := by
  intro todo
  obtain ⟨u', w', hR, hs⟩ := hc { fr b T D todo with mode := .returning } cs rfl
  obtain ⟨rfl, hL⟩ := hk u' w' hR
  refine Ev.steps (.head (step_defer (fr := { fr b T ({ target := .fn (.func f) cap, args } :: D) todo with mode := .returning }) (by simp) rfl rfl ?_) hs) (hL todo)
  simp only [invoke]
  exact run_callFunc hf _ _

theorem Pan.defer {f : FuncId} {cap args : Array Value} {R : FrameMode → World → Prop} {chain : List PanicEntry} (hf : hasBody P f)
    (hc : DefC P f (args ++ cap) (.panicking chain) w R)
    (hk : ∀ u' w', R u' w' → u' = .returning ∧ Lea P Φ b cs D T w' ∨ ∃ ch, u' = .panicking ch ∧ Pan P Φ b cs D T w' ch) : Pan P Φ b cs ({ target := .fn (.func f) cap, args } :: D) T w chain := by
  intro todo
  obtain ⟨u', w', hR, hs⟩ := hc { fr b T D todo with mode := .panicking chain } cs rfl
  have h1 := step_defer (P := P) (cs := cs) (w := w) (fr := { fr b T ({ target := .fn (.func f) cap, args } :: D) todo with mode := .panicking chain }) (d := { target := .fn (.func f) cap, args }) (ds := D) (fv := .func f) (cap := cap) (f := f) (args := args ++ cap) (by simp) rfl rfl
    (by simp only [invoke]; exact run_callFunc hf _ _)
  rcases hk u' w' hR with ⟨rfl, hL⟩ | ⟨ch, rfl, hL⟩
  · exact Ev.steps (.head h1 hs) (hL todo)
  · exact Ev.steps (.head h1 hs) (hL todo)

/-- what a deferred function's body comes to: its frame's end takes the caller's mode to 'settle' of it -/
theorem defC_of_at {f : FuncId} {fn : Func} {c : Code} {args : Array Value} {u : FrameMode} {R : FrameMode → World → Prop}
    (hf : P.funcs[f]? = some fn) (hb : fn.body = some c)
    (h : ∀ (c₀ : Frame) (cs : List Frame), c₀.mode = u →
      At P (fun m => ∃ u' w', R u' w' ∧ m = lone { c₀ with mode := u' } cs w') (baseD f) (c₀ :: cs) [] [.code c] (args ++ Array.replicate (fn.ntmps - args.size) undef) w) :
    DefC P f args u w R := by
  intro c₀ cs hu
  have henter : Frame.enter P f args .deferred = fr (baseD f) (args ++ Array.replicate (fn.ntmps - args.size) undef) [] [.code c] := by
    simp [Frame.enter, fr, baseD, hf, hb]
    rfl
  obtain ⟨m', hs, u', w', hR, rfl⟩ := h c₀ cs hu
  rw [henter]
  exact ⟨u', w', hR, hs⟩

/-- a deferred frame's end -/
theorem Lea.deferred {f : FuncId} {fn : Func} {v : Value} {c : Frame} (hb : b.fn = f) (hk : b.kind = .deferred) (hf : P.funcs[f]? = some fn)
    (hv : (results fn T).run P w = .ok v w) (hR : Φ (lone { c with mode := settle c.mode } cs w)) : Lea P Φ b (c :: cs) [] T w := by
  intro todo
  refine Ev.step ?_ (Ev.here hR)
  exact step_going_returned (v := v) hk ⟨rfl, rfl, fn, by subst hb; exact hf, hv⟩

/-- 'recover()' in a deferred function -/
theorem At.recover {ops : Array Oper} {i : Nat} {rest : List Nat} {o : Oper} {cs' : List Frame} {v : Value}
    (hk : b.kind = .deferred) (ho : ops[i]? = some o) (hw : Region.wanted o (yielded ops T) = true) (hn : noDefer o.op = true) (hro : b.roundOf = none)
    (hr : (execOp (evT T) o).run P w = .ok .recover w)
    (hrec : (recoverD cs = some (v, cs')) ∨ (recoverD cs = none ∧ v = .nilIface ∧ cs' = cs))
    (h : At P Φ b cs' D (.inRegion ops rest :: k) (putT T o.dst v) w) : At P Φ b cs D (.inRegion ops (i :: rest) :: k) T w := by
  refine Ev.step (step_lone_go ?_) h
  have htr := tryRecover_deferred (fr := fr b T D (.inRegion ops (i :: rest) :: k)) hk cs
  have hro' : (fr b T D (.inRegion ops (i :: rest) :: k)).roundOf = none := hro
  rw [stepG_op' ho hw hn, ← finish_fr ho]
  simp only [stepG.apply, Sem.runT_eq, hr, if_true, GStep.bare_after, hro', htr]
  rcases hrec with hrec | ⟨hrec, rfl, rfl⟩
  · simp only [hrec, GStep.bare_go]
  · simp only [hrec, GStep.bare_go]
end
end Go.Sx
end
section
namespace Go.Sx
open Go.RowKit

/-! ### What changed: only the blocks of S, and new ones -/
structure Fr (S : List Nat) (w w' : World) : Prop where
  os : w'.os = w.os
  tape : w'.tape = w.tape
  output : w'.output = w.output
  size : w.heap.size ≤ w'.heap.size
  block : ∀ k, k < w.heap.size → k ∉ S → w'.heap[k]? = w.heap[k]?

theorem Fr.refl (S : List Nat) (w : World) : Fr S w w := ⟨rfl, rfl, rfl, Nat.le_refl _, fun _ _ _ => rfl⟩
theorem Fr.trans {S S' : List Nat} {a b c : World} (h : Fr S a b) (k : Fr S' b c) (hS : ∀ s ∈ S', s < a.heap.size → s ∈ S) : Fr S a c :=
  ⟨k.os.trans h.os, k.tape.trans h.tape, k.output.trans h.output, Nat.le_trans h.size k.size,
    fun i hi hn => (k.block i (Nat.lt_of_lt_of_le hi h.size) (fun hm => hn (hS i hm hi))).trans (h.block i hi hn)⟩
theorem Fr.trans0 {S : List Nat} {a b c : World} (h : Fr S a b) (k : Fr [] b c) : Fr S a c := h.trans k (by simp)
theorem Fr.mono {S S' : List Nat} {a b : World} (h : Fr S a b) (hS : ∀ s ∈ S, s < a.heap.size → s ∈ S') : Fr S' a b :=
  ⟨h.os, h.tape, h.output, h.size, fun i hi hn => h.block i hi (fun hm => hn (hS i hm hi))⟩
theorem Fr.below {w w' : World} (h : Fr [] w w') : Below w.heap.size w w' := ⟨h.os, h.tape, h.output, h.size, fun k hk => h.block k hk (by simp)⟩
theorem Fr.ofBelow {w w' : World} (h : Below w.heap.size w w') : Fr [] w w' := ⟨h.os, h.tape, h.output, h.size, fun k hk _ => h.block k hk⟩
theorem Fr.alloc (w : World) (o : Obj) : Fr [] w (w.alloc o) := ⟨rfl, rfl, rfl, by simp, fun k hk _ => by first | exact heap_alloc_old w o k hk | exact heap_alloc_old w o hk⟩
theorem Fr.drawn (w : World) (n : Nat) : Fr [] w { w with drawn := n } := ⟨rfl, rfl, rfl, Nat.le_refl _, fun _ _ _ => rfl⟩
theorem Fr.setRow (w : World) (g : Nat) (cs : Array Value) : Fr [g] w (w.setRow g cs) :=
  ⟨rfl, rfl, rfl, by simp, fun k _ hk => setRow_other w g k cs (by simpa using hk)⟩
theorem Fr.setO (w : World) (g : Nat) (o : Obj) : Fr [g] w (setO w g o) :=
  ⟨rfl, rfl, rfl, by simp [Sx.setO], fun k _ hk => by
    simp only [List.mem_singleton] at hk
    simp only [Sx.setO, Array.getElem?_setIfInBounds]
    rw [if_neg (fun e => hk e.symm)]⟩
theorem setO_same {w : World} {g : Nat} {o o' : Obj} (h : w.heap[g]? = some o) : (setO w g o').heap[g]? = some o' := by
  have := (Array.getElem?_eq_some_iff.1 h).1
  simp [setO, this]
theorem Fr.grown {w w' : World} {row : Option Nat} (h : w.grownBy w' row) : Fr row.toList w w' :=
  ⟨h.os, h.tape, h.output, h.size, fun k hk hn => h.block k hk (fun e => hn (by simp [← e]))⟩
theorem Fr.heap {S : List Nat} {w w' : World} {b : Nat} {o : Obj} (h : Fr S w w') (hb : w.heap[b]? = some o) (hS : b ∉ S) : w'.heap[b]? = some o :=
  (h.block b (Array.getElem?_eq_some_iff.1 hb).1 hS).trans hb
theorem Fr.cell {S : List Nat} {w w' : World} {a : Addr} {v : Value} (h : Fr S w w') (hc : w.cell? a = some v) (hS : a.block ∉ S) : w'.cell? a = some v :=
  (World.cell?_of_block (h.block a.block (World.block_lt_of_cell? w a hc) hS)).trans hc

/-! ### What is known of the call's own memory -/
inductive Ent where
  /-- a block, of which a predicate is known -/
  | blk (b : Nat) (A : Obj → Prop)
  /-- a block that is only read -/
  | ro (b : Nat) (A : Obj → Prop)
  /-- a slice of the call's own, from its row's head: its cells -/
  | row (v : Value) (e : TypeId) (sz n : Nat) (l : List Value)

def Ent.keys : Ent → List Nat
  | .blk b _ => [b]
  | .ro b _ => [b]
  | .row v _ _ _ _ => v.ownBlock.toList

/-- what of it may turn -/
def Ent.w : Ent → List Nat
  | .blk b _ => [b]
  | .ro _ _ => []
  | .row v _ _ _ _ => v.ownBlock.toList

theorem Ent.w_sub (x : Ent) : ∀ k ∈ x.w, k ∈ x.keys := by
  intro k hk
  cases x with
  | ro b A => simp [Ent.w] at hk
  | _ => exact hk

def Ent.holds (w : World) : Ent → Prop
  | .ro b A => ∃ o, w.heap[b]? = some o ∧ A o
  | .blk b A => ∃ o, w.heap[b]? = some o ∧ A o
  | .row v e sz n l => w.ownsRow 0 e sz v n l

/-- just this object -/
def Eo (o : Obj) : Obj → Prop := fun o' => o' = o

theorem Ent.keys_lt {w : World} {x : Ent} (h : x.holds w) : ∀ k ∈ x.keys, k < w.heap.size := by
  intro k hk
  cases x with
  | blk b A =>
    obtain ⟨o, ho, _⟩ := h
    simp only [Ent.keys, List.mem_singleton] at hk
    subst hk
    exact (Array.getElem?_eq_some_iff.1 ho).1
  | ro b A =>
    obtain ⟨o, ho, _⟩ := h
    simp only [Ent.keys, List.mem_singleton] at hk
    subst hk
    exact (Array.getElem?_eq_some_iff.1 ho).1
  | row v e sz n l =>
    simp only [Ent.keys, Option.mem_toList] at hk
    exact (World.ownsRow.lt h k hk).2

theorem Ent.kept {S : List Nat} {w w' : World} {x : Ent} (h : x.holds w) (hf : Fr S w w') (hS : ∀ k ∈ x.keys, k ∉ S) : x.holds w' := by
  cases x with
  | blk b A =>
    obtain ⟨o, ho, hA⟩ := h
    exact ⟨o, hf.heap ho (hS b (by simp [Ent.keys])), hA⟩
  | ro b A =>
    obtain ⟨o, ho, hA⟩ := h
    exact ⟨o, hf.heap ho (hS b (by simp [Ent.keys])), hA⟩
  | row v e sz n l =>
    obtain ⟨h1, h2⟩ := h
    refine ⟨h1, ?_⟩
    rcases h2 with hn | ⟨g, cap, cur, rfl, hb, hg, rest⟩
    · exact .inl hn
    · exact .inr ⟨g, cap, cur, rfl, hb, hf.heap hg (hS g (by simp [Ent.keys, Value.ownBlock])), rest⟩

theorem sublist_flatMap {α β : Type} (f : α → List β) {l l' : List α} (h : l.Sublist l') : (l.flatMap f).Sublist (l'.flatMap f) := by
  induction h with
  | slnil => simp
  | cons a _ ih => rw [List.flatMap_cons]; exact ih.trans (List.sublist_append_right _ _)
  | cons_cons a _ ih => rw [List.flatMap_cons, List.flatMap_cons]; exact (List.Sublist.refl _).append ih

/-! ### Registers -/
def look (t : Nat) : List (Nat × Value) → Option Value
  | [] => none
  | (k, v) :: r => bif Nat.beq k t then some v else look t r

theorem look_cons (t k : Nat) (v : Value) (r : List (Nat × Value)) : look t ((k, v) :: r) = bif Nat.beq k t then some v else look t r := rfl

/-- all of R' is in R -/
def Sub (R : List (Nat × Value)) : List (Nat × Value) → Prop
  | [] => True
  | (t, v) :: r => look t R = some v ∧ Sub R r

theorem Sub.look {R : List (Nat × Value)} : ∀ {R' : List (Nat × Value)}, Sub R R' → ∀ t v, look t R' = some v → Sx.look t R = some v
  | [], _, t, v, h => by simp [Sx.look] at h
  | (k, u) :: r, hs, t, v, h => by
    rw [look_cons] at h
    cases hk : Nat.beq k t with
    | true =>
      rw [hk] at h
      obtain rfl : k = t := Nat.eq_of_beq_eq_true hk
      have : u = v := by simpa using h
      exact this ▸ hs.1
    | false => rw [hk] at h; exact Sub.look hs.2 t v h

structure Sx (w0 : World) (S : List Nat) (N : Nat) (R : List (Nat × Value)) (G : List Ent) (T : Array Value) (w : World) : Prop where
  fr : Fr S w0 w
  size : T.size = N
  reg : ∀ t v, look t R = some v → T[t]? = some v
  ent : ∀ x ∈ G, x.holds w
  own : ∀ x ∈ G, ∀ k ∈ x.w, w0.heap.size ≤ k ∨ k ∈ S
  nd : (G.flatMap Ent.keys).Nodup

section
variable {w0 : World} {S : List Nat} {N : Nat} {R : List (Nat × Value)} {G : List Ent} {T : Array Value} {w : World}

theorem Sx.r (H : Sx w0 S N R G T w) (t : Nat) {v : Value} (h : look t R = some v) : evT T (.tmp t) = v := by
  simp [evT, Array.getD_eq_getD_getElem?, H.reg t v h]

theorem Sx.put (H : Sx w0 S N R G T w) (d : Nat) (v : Value) (hd : d < N) : Sx w0 S N ((d, v) :: R) G (putT T (some d) v) w := by
  refine ⟨H.fr, by simp [putT, H.size], ?_, H.ent, H.own, H.nd⟩
  intro t u h
  rw [look_cons] at h
  simp only [putT, Array.getElem?_setIfInBounds]
  cases hk : Nat.beq d t with
  | true =>
    rw [hk] at h
    obtain rfl : d = t := Nat.eq_of_beq_eq_true hk
    have : v = u := by simpa using h
    simp [H.size, hd, this]
  | false =>
    rw [hk] at h
    have hne : d ≠ t := fun e => by rw [e, Nat.beq_refl] at hk; cases hk
    rw [if_neg hne]
    exact H.reg t u h

theorem Sx.put0 (H : Sx w0 S N R G T w) (v : Value) : Sx w0 S N R G (putT T none v) w := H

/-- fewer registers -/
theorem Sx.sub (H : Sx w0 S N R G T w) {R' : List (Nat × Value)} (h : Sub R R') : Sx w0 S N R' G T w :=
  ⟨H.fr, H.size, fun t v hv => H.reg t v (h.look t v hv), H.ent, H.own, H.nd⟩

/-- fewer entries, in order -/
theorem Sx.sublist (H : Sx w0 S N R G T w) {G' : List Ent} (h : G'.Sublist G) : Sx w0 S N R G' T w :=
  ⟨H.fr, H.size, H.reg, fun x hx => H.ent x (h.subset hx), fun x hx => H.own x (h.subset hx), (sublist_flatMap Ent.keys h).nodup H.nd⟩

theorem Sx.perm (H : Sx w0 S N R G T w) {G' : List Ent} (h : G'.Perm G) : Sx w0 S N R G' T w :=
  ⟨H.fr, H.size, H.reg, fun x hx => H.ent x (h.subset hx), fun x hx => H.own x (h.subset hx), (h.flatMap_right Ent.keys).nodup_iff.2 H.nd⟩

theorem Sx.heap (H : Sx w0 S N R G T w) {b : Nat} {o : Obj} (h : Ent.blk b (Eo o) ∈ G) : w.heap[b]? = some o := by
  obtain ⟨o', h1, h2⟩ := H.ent _ h
  rw [h1, show o' = o from h2]

theorem Sx.heapR (H : Sx w0 S N R G T w) {b : Nat} {o : Obj} (h : Ent.ro b (Eo o) ∈ G) : w.heap[b]? = some o := by
  obtain ⟨o', h1, h2⟩ := H.ent _ h
  rw [h1, show o' = o from h2]
theorem Sx.cellR (H : Sx w0 S N R G T w) {b : Nat} {cs : Array Value} {ty : TypeId} {fz : Nat × Nat} (h : Ent.ro b (Eo (.cells cs ty fz)) ∈ G) (off : Nat) {v : Value} (hv : cs[off]? = some v) :
    w.cell? ⟨b, off, none⟩ = some v := by
  rw [cell_of_row w b off cs ty fz (H.heapR h), hv]

/-- a block that was there, to be read -/
theorem Sx.ro (H : Sx w0 S N R G T w) {b : Nat} {o : Obj} (h : w.heap[b]? = some o) (hb : b ∉ G.flatMap Ent.keys) : Sx w0 S N R (.ro b (Eo o) :: G) T w := by
  refine ⟨H.fr, H.size, H.reg, ?_, ?_, ?_⟩
  · intro y hy
    rcases List.mem_cons.1 hy with rfl | hy
    · exact ⟨o, h, rfl⟩
    · exact H.ent y hy
  · intro y hy k hky
    rcases List.mem_cons.1 hy with rfl | hy
    · simp [Ent.w] at hky
    · exact H.own y hy k hky
  · rw [List.flatMap_cons, List.nodup_append]
    refine ⟨by simp [Ent.keys], H.nd, ?_⟩
    intro a ha c hc e
    simp only [Ent.keys, List.mem_singleton] at ha
    subst ha e
    exact hb hc

theorem Sx.old (H : Sx w0 S N R G T w) {b : Nat} {o : Obj} (h : w0.heap[b]? = some o) (hS : b ∉ S) : w.heap[b]? = some o := H.fr.heap h hS
theorem Sx.ext (H : Sx w0 S N R G T w) {a : Addr} {v : Value} (h : w0.cell? a = some v) (hS : a.block ∉ S) : w.cell? a = some v := H.fr.cell h hS

theorem Sx.cell (H : Sx w0 S N R G T w) {b : Nat} {cs : Array Value} {ty : TypeId} {fz : Nat × Nat} (h : Ent.blk b (Eo (.cells cs ty fz)) ∈ G) (off : Nat) {v : Value} (hv : cs[off]? = some v) :
    w.cell? ⟨b, off, none⟩ = some v := by
  rw [cell_of_row w b off cs ty fz (H.heap h), hv]

/-- a world that is as the old one but for new blocks (and the count of draws) -/
theorem Sx.world (H : Sx w0 S N R G T w) {w' : World} (hf : Fr [] w w') : Sx w0 S N R G T w' :=
  ⟨H.fr.trans0 hf, H.size, H.reg, fun x hx => Ent.kept (H.ent x hx) hf (by simp), H.own, H.nd⟩

/-- a new entry -/
theorem Sx.new (H : Sx w0 S N R G T w) {w' : World} (hf : Fr [] w w') (x : Ent) (hx : x.holds w') (hk : ∀ k ∈ x.keys, w.heap.size ≤ k) (hn : x.keys.Nodup) : Sx w0 S N R (x :: G) T w' := by
  have H' := H.world hf
  refine ⟨H'.fr, H.size, H.reg, ?_, ?_, ?_⟩
  · intro y hy
    rcases List.mem_cons.1 hy with rfl | hy
    · exact hx
    · exact H'.ent y hy
  · intro y hy k hky
    rcases List.mem_cons.1 hy with rfl | hy
    · exact .inl (Nat.le_trans H.fr.size (hk k (Ent.w_sub _ k hky)))
    · exact H.own y hy k hky
  · rw [List.flatMap_cons, List.nodup_append]
    refine ⟨hn, H.nd, ?_⟩
    intro a ha c hc e
    subst e
    obtain ⟨y, hy, hay⟩ := List.mem_flatMap.1 hc
    have h1 := Ent.keys_lt (H.ent y hy) a hay
    have h2 := hk a ha
    omega

/-- one entry turns -/
inductive Upd (x' : Ent) : Ent → List Ent → List Ent → Prop where
  | here {x : Ent} {r : List Ent} : Upd x' x (x :: r) (x' :: r)
  | there {x y : Ent} {r r' : List Ent} : Upd x' x r r' → Upd x' x (y :: r) (y :: r')

theorem Upd.mem {x x' : Ent} {G G' : List Ent} (h : Upd x' x G G') : x ∈ G := by
  induction h with
  | here => simp
  | there _ ih => simp [ih]

theorem Upd.split {x x' : Ent} {G G' : List Ent} (h : Upd x' x G G') : ∃ A B, G = A ++ x :: B ∧ G' = A ++ x' :: B := by
  induction h with
  | here => exact ⟨[], _, rfl, rfl⟩
  | there _ ih => obtain ⟨A, B, h1, h2⟩ := ih; exact ⟨_ :: A, B, by rw [h1]; rfl, by rw [h2]; rfl⟩

theorem Sx.upd (H : Sx w0 S N R G T w) {w' : World} {x x' : Ent} {G' : List Ent} (hu : Upd x' x G G') (hf : Fr x.w w w') (hx : x'.holds w')
    (hk : ∀ k ∈ x'.keys, k ∈ x.w ∨ w.heap.size ≤ k) (hn : x'.keys.Nodup) : Sx w0 S N R G' T w' := by
  obtain ⟨A, B, rfl, rfl⟩ := hu.split
  have hown := H.own x (by simp)
  have hnd := H.nd
  rw [List.flatMap_append, List.flatMap_cons, List.nodup_append, List.nodup_append] at hnd
  obtain ⟨hA, ⟨hx0, hB, hxB⟩, hAx⟩ := hnd
  have hother : ∀ y, y ∈ A ∨ y ∈ B → ∀ k ∈ y.keys, k ∉ x.keys := by
    intro y hy k hky hkx
    rcases hy with hy | hy
    · exact hAx k (List.mem_flatMap.2 ⟨y, hy, hky⟩) k (by simp [hkx]) rfl
    · exact hxB k hkx k (List.mem_flatMap.2 ⟨y, hy, hky⟩) rfl
  have hlt : ∀ y, y ∈ A ∨ y ∈ B → ∀ k ∈ y.keys, k < w.heap.size := fun y hy k hky => Ent.keys_lt (H.ent y (by simp; rcases hy with h | h <;> simp [h])) k hky
  refine ⟨?_, H.size, H.reg, ?_, ?_, ?_⟩
  · refine H.fr.trans hf ?_
    intro s hs hlt0
    rcases hown s hs with h | h
    · omega
    · exact h
  · intro y hy
    simp only [List.mem_append, List.mem_cons] at hy
    rcases hy with hy | rfl | hy
    · exact Ent.kept (H.ent y (by simp [hy])) hf (fun k hky hs => hother y (.inl hy) k hky (Ent.w_sub _ k hs))
    · exact hx
    · exact Ent.kept (H.ent y (by simp [hy])) hf (fun k hky hs => hother y (.inr hy) k hky (Ent.w_sub _ k hs))
  · intro y hy k hky
    simp only [List.mem_append, List.mem_cons] at hy
    rcases hy with hy | rfl | hy
    · exact H.own y (by simp [hy]) k hky
    · rcases hk k (Ent.w_sub _ k hky) with h | h
      · exact hown k h
      · exact .inl (Nat.le_trans H.fr.size h)
    · exact H.own y (by simp [hy]) k hky
  · rw [List.flatMap_append, List.flatMap_cons, List.nodup_append, List.nodup_append]
    refine ⟨hA, ⟨hn, hB, ?_⟩, ?_⟩
    · intro a ha c hc e
      subst e
      obtain ⟨y, hy, hay⟩ := List.mem_flatMap.1 hc
      rcases hk a ha with h | h
      · exact hother y (.inr hy) a hay (Ent.w_sub _ a h)
      · have := hlt y (.inr hy) a hay; omega
    · intro a ha c hc e
      subst e
      obtain ⟨y, hy, hay⟩ := List.mem_flatMap.1 ha
      rcases List.mem_append.1 hc with hc | hc
      · rcases hk a hc with h | h
        · exact hother y (.inl hy) a hay (Ent.w_sub _ a h)
        · have := hlt y (.inl hy) a hay; omega
      · exact hAx a ha a (by simp [hc]) rfl

/-- at the start of a function: the arguments are the first registers -/
def argR : Nat → List Value → List (Nat × Value)
  | _, [] => []
  | i, v :: r => (i, v) :: argR (i + 1) r

theorem look_argR : ∀ (l : List Value) (i t : Nat) (v : Value), look t (argR i l) = some v → i ≤ t ∧ l[t - i]? = some v
  | [], i, t, v, h => by simp [argR, look] at h
  | x :: r, i, t, v, h => by
    simp only [argR, look_cons] at h
    cases hk : Nat.beq i t with
    | true =>
      rw [hk] at h
      obtain rfl : i = t := Nat.eq_of_beq_eq_true hk
      simpa using h
    | false =>
      rw [hk] at h
      obtain ⟨h1, h2⟩ := look_argR r (i + 1) t v h
      refine ⟨by omega, ?_⟩
      have : t - i = (t - (i + 1)) + 1 := by omega
      rw [this]
      simpa using h2

theorem Sx.start (w : World) (S : List Nat) (args : List Value) (n : Nat) (h : args.length ≤ n) :
    Sx w S n (argR 0 args) [] (args.toArray ++ Array.replicate (n - args.toArray.size) undef) w := by
  refine ⟨Fr.refl _ _, by simp; omega, ?_, by simp, by simp, by simp⟩
  intro t v hv
  obtain ⟨_, h2⟩ := look_argR args 0 t v hv
  have hlt : t < args.length := by
    have := (List.getElem?_eq_some_iff.1 h2).1
    omega
  rw [Array.getElem?_append_left (by simpa using hlt)]
  simpa using h2
end
end Go.Sx
end
section
namespace Go.Sx
open Go.RowKit

theorem wN {ops : Array Oper} {o : Oper} {T : Array Value} (h : o.guard = none) : Region.wanted o (yielded ops T) = true := by simp [Region.wanted, h]
theorem add_plain' (b off n : Nat) : (⟨b, off, none⟩ : Addr).add n = ⟨b, off + n, none⟩ := by unfold Addr.add; split <;> simp_all

theorem lt_of_blt {a b : Nat} (h : Nat.blt a b = true) : a < b := Nat.le_of_ble_eq_true h
theorem evC {T : Array Value} {v : Value} : evT T (.const v) = v := rfl
theorem evF {T : Array Value} {f : FuncId} : evT T (.func f) = .func (.func f) #[] #[] := rfl
theorem evG {T : Array Value} {g : Nat} : evT T (.global g) = .pointer (some ⟨g, 0, none⟩) := rfl

section
variable {P : Program} {Φ : Machine → Prop} {b : Frame} {cs : List Frame} {D : List Deferred} {k : List Item} {T : Array Value} {w : World}
variable {w0 : World} {S : List Nat} {N : Nat} {R : List (Nat × Value)} {G : List Ent}
variable {ops : Array Oper} {i : Nat} {rest : List Nat} {o : Oper}

theorem wS (H : Sx w0 S N R G T w) {j t : Nat} {c : Bool} (hg : o.guard = some (j, c)) (hj : (ops[j]?).bind (·.dst) = some t) (hl : look t R = some (.bool c)) :
    Region.wanted o (yielded ops T) = true := by
  simp [Region.wanted, hg, yielded, hj, H.reg t _ hl]
theorem wU (H : Sx w0 S N R G T w) {j t : Nat} {c c' : Bool} (hg : o.guard = some (j, c)) (hj : (ops[j]?).bind (·.dst) = some t) (hl : look t R = some (.bool c')) (hc : (c' == c) = false) :
    Region.wanted o (yielded ops T) = false := by
  simp only [Region.wanted, hg, yielded, hj, Option.bind_some, H.reg t _ hl]
  cases c <;> cases c' <;> simp_all

/-! ### Control -/
theorem At.condT {c : Operand} {x y : Code} (hc : evT T c = .bool true) (h : At P Φ b cs D (.code x :: k) T w) : At P Φ b cs D (.code (.cond c x y) :: k) T w := At.cond hc h
theorem At.condF {c : Operand} {x y : Code} (hc : evT T c = .bool false) (h : At P Φ b cs D (.code y :: k) T w) : At P Φ b cs D (.code (.cond c x y) :: k) T w := At.cond hc h
theorem At.condP {c : Operand} {x y : Code} {p : Prop} [Decidable p] (hc : evT T c = .bool (decide p)) (ht : p → At P Φ b cs D (.code x :: k) T w) (hf : ¬ p → At P Φ b cs D (.code y :: k) T w) : At P Φ b cs D (.code (.cond c x y) :: k) T w := by
  by_cases h : p
  · exact At.cond (t := true) (by rw [hc, decide_eq_true h]) (ht h)
  · exact At.cond (t := false) (by rw [hc, decide_eq_false h]) (hf h)
theorem At.condB {c : Operand} {x y : Code} {t : Bool} (hc : evT T c = .bool t) (ht : t = true → At P Φ b cs D (.code x :: k) T w) (hf : t = false → At P Φ b cs D (.code y :: k) T w) : At P Φ b cs D (.code (.cond c x y) :: k) T w := by
  cases t
  · exact At.cond hc (hf rfl)
  · exact At.cond hc (ht rfl)

theorem At.loop {c : Code} (I : Array Value → World → Prop) (μ : Array Value → World → Nat) (h0 : I T w)
    (round : ∀ T w, I T w → (∀ T' w', I T' w' → μ T' w' < μ T w → At P Φ b cs D (.inLoop c :: k) T' w') → At P Φ b cs D (.code c :: .inLoop c :: k) T w) :
    At P Φ b cs D (.code (.loop c) :: k) T w := by
  have key : ∀ n T w, μ T w = n → I T w → At P Φ b cs D (.inLoop c :: k) T w := by
    intro n
    induction n using Nat.strongRecOn with
    | _ n ih =>
      intro T w hn hI
      exact At.inLoop (round T w hI (fun T' w' hI' hlt => ih _ (hn ▸ hlt) T' w' rfl hI'))
  exact At.loop1 (round T w h0 (fun T' w' hI' _ => key _ T' w' rfl hI'))

/-- a loop whose rounds are counted by a number that the relation bears -/
theorem At.loopN {c : Code} (I : Nat → Array Value → World → Prop) (n : Nat) (h0 : I n T w)
    (round : ∀ n T w, I n T w → (∀ n' T' w', n' < n → I n' T' w' → At P Φ b cs D (.inLoop c :: k) T' w') → At P Φ b cs D (.code c :: .inLoop c :: k) T w) :
    At P Φ b cs D (.code (.loop c) :: k) T w := by
  have key : ∀ n T w, I n T w → At P Φ b cs D (.inLoop c :: k) T w := by
    intro n
    induction n using Nat.strongRecOn with
    | _ n ih =>
      intro T w hI
      exact At.inLoop (round n T w hI (fun n' T' w' hlt hI' => ih n' hlt T' w' hI'))
  exact At.loop1 (round n T w h0 (fun n' T' w' _ hI' => key n' T' w' hI'))

/-- where ways meet again -/
theorem At.join {c : Code} (J : Array Value → World → Prop) (hJ : ∀ T w, J T w → At P Φ b cs D k T w)
    (h : (∀ T w, J T w → At P Φ b cs D k T w) → At P Φ b cs D (.code c :: k) T w) : At P Φ b cs D (.code c :: k) T w := h hJ

/-! ### Operations -/
/-- a value, the world as it was -/
theorem At.v {v : Value} {d : Tmp} (H : Sx w0 S N R G T w) (ho : ops[i]? = some o) (hw : Region.wanted o (yielded ops T) = true) (hn : noDefer o.op = true) (hd : o.dst = some d) (hN : Nat.blt d N = true)
    (hr : (execOp (evT T) o).run P w = .ok (.value v) w) (K : ∀ T', Sx w0 S N ((d, v) :: R) G T' w → At P Φ b cs D (.inRegion ops rest :: k) T' w) :
    At P Φ b cs D (.inRegion ops (i :: rest) :: k) T w :=
  At.op ho hw hn hr (by rw [hd]; exact K _ (H.put d v (lt_of_blt hN)))

/-- skipped -/
theorem At.u {d : Tmp} (H : Sx w0 S N R G T w) (ho : ops[i]? = some o) (hw : Region.wanted o (yielded ops T) = false) (hd : o.dst = some d) (hN : Nat.blt d N = true)
    (K : ∀ T', Sx w0 S N ((d, undef) :: R) G T' w → At P Φ b cs D (.inRegion ops rest :: k) T' w) :
    At P Φ b cs D (.inRegion ops (i :: rest) :: k) T w :=
  At.opSkip ho hw (by rw [hd]; exact K _ (H.put d undef (lt_of_blt hN)))

/-- a test that parts the ways at once -/
theorem At.c {p : Prop} [Decidable p] {d : Tmp} (H : Sx w0 S N R G T w) (ho : ops[i]? = some o) (hw : Region.wanted o (yielded ops T) = true) (hn : noDefer o.op = true) (hd : o.dst = some d) (hN : Nat.blt d N = true)
    (hr : (execOp (evT T) o).run P w = .ok (.value (.bool (decide p))) w)
    (Kt : p → ∀ T', Sx w0 S N ((d, .bool true) :: R) G T' w → At P Φ b cs D (.inRegion ops rest :: k) T' w)
    (Kf : ¬ p → ∀ T', Sx w0 S N ((d, .bool false) :: R) G T' w → At P Φ b cs D (.inRegion ops rest :: k) T' w) :
    At P Φ b cs D (.inRegion ops (i :: rest) :: k) T w := by
  by_cases h : p
  · exact At.v H ho hw hn hd hN (by rw [hr, decide_eq_true h]) (Kt h)
  · exact At.v H ho hw hn hd hN (by rw [hr, decide_eq_false h]) (Kf h)

/-- a new block of cells -/
theorem At.new {d : Tmp} {cells : List Value} {t : TypeId} (H : Sx w0 S N R G T w) (ho : ops[i]? = some o) (hw : Region.wanted o (yielded ops T) = true) (hn : noDefer o.op = true) (hd : o.dst = some d) (hN : Nat.blt d N = true)
    (hr : (execOp (evT T) o).run P w = .ok (.value (.pointer (some ⟨w.heap.size, 0, none⟩))) (w.alloc (.cells cells.toArray t)))
    (K : ∀ n T' w', w.heap.size ≤ n → Fr [] w w' → Sx w0 S N ((d, .pointer (some ⟨n, 0, none⟩)) :: R) (.blk n (Eo (.cells cells.toArray t (0, 0))) :: G) T' w' → At P Φ b cs D (.inRegion ops rest :: k) T' w') :
    At P Φ b cs D (.inRegion ops (i :: rest) :: k) T w := by
  refine At.op ho hw hn hr ?_
  rw [hd]
  refine K w.heap.size _ _ (Nat.le_refl _) (Fr.alloc _ _) (Sx.put ?_ d _ (lt_of_blt hN))
  exact H.new (Fr.alloc _ _) _ ⟨_, heap_alloc_new w _, rfl⟩ (by simp [Ent.keys]) (by simp [Ent.keys])

/-- a new object -/
theorem At.newObj {d : Tmp} {ob : Obj} {f : Nat → Value} (H : Sx w0 S N R G T w) (ho : ops[i]? = some o) (hw : Region.wanted o (yielded ops T) = true) (hn : noDefer o.op = true) (hd : o.dst = some d) (hN : Nat.blt d N = true)
    (hr : (execOp (evT T) o).run P w = .ok (.value (f w.heap.size)) (w.alloc ob))
    (K : ∀ n T' w', w.heap.size ≤ n → Fr [] w w' → Sx w0 S N ((d, f n) :: R) (.blk n (Eo ob) :: G) T' w' → At P Φ b cs D (.inRegion ops rest :: k) T' w') :
    At P Φ b cs D (.inRegion ops (i :: rest) :: k) T w := by
  refine At.op ho hw hn hr ?_
  rw [hd]
  refine K w.heap.size _ _ (Nat.le_refl _) (Fr.alloc _ _) (Sx.put ?_ d _ (lt_of_blt hN))
  exact H.new (Fr.alloc _ _) _ ⟨_, heap_alloc_new w _, rfl⟩ (by simp [Ent.keys]) (by simp [Ent.keys])

/-- a store into a list, as a relation -/
inductive SetAt (v : Value) : List Value → Nat → List Value → Prop where
  | z {x : Value} {l : List Value} : SetAt v (x :: l) 0 (v :: l)
  | s {x : Value} {l l' : List Value} {n : Nat} : SetAt v l n l' → SetAt v (x :: l) (n + 1) (x :: l')
theorem SetAt.eq {v : Value} {l l' : List Value} {n : Nat} (h : SetAt v l n l') : n < l.length ∧ l' = l.take n ++ [v] ++ l.drop (n + 1) := by
  induction h with
  | z => simp
  | s _ ih => obtain ⟨h1, rfl⟩ := ih; simp [h1]

theorem run_store_cells {g off : Nat} {L l L' : List Value} {t ty : TypeId} {n : Nat} (hg : w.heap[g]? = some (.cells L.toArray ty (0, 0))) (hs : ∀ w, (sizeOf t).run P w = .ok n w)
    {v : Value} (hv : v.cells.toList = l) (hl : l.length = n) (h1 : ∀ u ∈ l, u.oneCell' = true) (hfit : off + l.length ≤ L.length) (hL : L' = L.take off ++ l ++ L.drop (off + l.length)) :
    (Instr.storeAt t (.pointer (some ⟨g, off, none⟩)) v).run P w = .ok () (w.setRow g L'.toArray) := by
  have hst := run_storeCells_at P g off ty l 0 L.toArray w hg (by simpa using hfit) h1
  have hsz : v.cells.size = n := by rw [← hl, ← hv]; simp
  subst hL
  simp only [Nat.add_zero] at hst
  simp [Instr.storeAt, Instr.sureAddr, storeVar, hs, hsz, hv, hst]

/-- a store of one cell into a block of the call's own -/
theorem At.store1 {x y : Operand} {t ty : TypeId} {g off : Nat} {v : Value} {L L' : List Value} {G' : List Ent} (H : Sx w0 S N R G T w) (ho : ops[i]? = some o) (hw : Region.wanted o (yielded ops T) = true)
    (hop : o.op = .store t x y) (hd : o.dst = none)
    (hx : evT T x = .pointer (some ⟨g, off, none⟩)) (hy : evT T y = v) (hs : ∀ w, (sizeOf t).run P w = .ok 1 w) (hv : v.cells = #[v]) (h1 : v.oneCell' = true)
    (hu : Upd (.blk g (Eo (.cells L'.toArray ty (0, 0)))) (.blk g (Eo (.cells L.toArray ty (0, 0)))) G G') (hL : SetAt v L off L')
    (K : ∀ T' w', Fr [g] w w' → Sx w0 S N R G' T' w' → At P Φ b cs D (.inRegion ops rest :: k) T' w') :
    At P Φ b cs D (.inRegion ops (i :: rest) :: k) T w := by
  have hg := H.heap hu.mem
  obtain ⟨hlt, hL'⟩ := hL.eq
  have hr := run_store_cells (P := P) (w := w) (t := t) hg hs (v := v) (l := [v]) (by rw [hv]) rfl (by simp [h1]) (off := off) (by simp only [List.length_singleton]; omega) (L' := L') (by simpa using hL')
  refine At.opS (w' := w.setRow g L'.toArray) ho hw (by rw [hop]; rfl) ?_ ?_
  · unfold execOp
    rw [hop]
    simp only [hx, hy, Sem.run_bind, hr, Result.andThen_ok]
    rfl
  · rw [hd]
    exact K _ _ (Fr.setRow _ _ _) (H.upd hu (Fr.setRow _ _ _) ⟨_, setRow_heap w g _ _ ty _ hg, rfl⟩ (by simp [Ent.keys, Ent.w]) (by simp [Ent.keys]))

/-- a store of a struct over a whole block -/
theorem At.storeA {x y : Operand} {t ty : TypeId} {g : Nat} {L l : List Value} {G' : List Ent} (H : Sx w0 S N R G T w) (ho : ops[i]? = some o) (hw : Region.wanted o (yielded ops T) = true)
    (hop : o.op = .store t x y) (hd : o.dst = none)
    (hx : evT T x = .pointer (some ⟨g, 0, none⟩)) (hy : evT T y = .agg l.toArray) (hs : ∀ w, (sizeOf t).run P w = .ok l.length w) (h1 : ∀ u ∈ l, u.oneCell' = true)
    (hu : Upd (.blk g (Eo (.cells l.toArray ty (0, 0)))) (.blk g (Eo (.cells L.toArray ty (0, 0)))) G G') (hl : L.length = l.length)
    (K : ∀ T' w', Fr [g] w w' → Sx w0 S N R G' T' w' → At P Φ b cs D (.inRegion ops rest :: k) T' w') :
    At P Φ b cs D (.inRegion ops (i :: rest) :: k) T w := by
  have hg := H.heap hu.mem
  have hr := run_store_cells (P := P) (w := w) (t := t) hg hs (v := .agg l.toArray) (l := l) (by simp [Value.cells]) rfl h1 (off := 0) (by omega) (L' := l) (by simp [← hl])
  refine At.opS (w' := w.setRow g l.toArray) ho hw (by rw [hop]; rfl) ?_ ?_
  · unfold execOp
    rw [hop]
    simp only [hx, hy, Sem.run_bind, hr, Result.andThen_ok]
    rfl
  · rw [hd]
    exact K _ _ (Fr.setRow _ _ _) (H.upd hu (Fr.setRow _ _ _) ⟨_, setRow_heap w g _ _ ty _ hg, rfl⟩ (by simp [Ent.keys, Ent.w]) (by simp [Ent.keys]))

/-- a call of a function by a contract; what it comes to is told of by the contract -/
theorem At.f {f : FuncId} {xs : Array Operand} {ts : Array TypeId} {args : Array Value} {Rr : Ending → World → Prop} (ho : ops[i]? = some o) (hw : Region.wanted o (yielded ops T) = true)
    (hop : o.op = .call { callee := .value (.func f), args := xs, argTypes := ts }) (ha : xs.map (evT T) = args) (hf : ∀ (args : Array Value) w, (callFunc f args).run P w = .ok (.enter f args) w)
    (hc : Calls P f args w Rr) (h : ∀ e w2, Rr e w2 → Res P Φ b cs D (.inRegion ops rest :: k) T o.dst e w2) :
    At P Φ b cs D (.inRegion ops (i :: rest) :: k) T w := by
  refine At.call (f := f) (args := args) (w1 := w) ho hw (by rw [hop]; rfl) ?_ hc h
  subst ha
  unfold execOp
  rw [hop]
  simp [resolve, evT, Deferred.ofValue, invoke, hf]

theorem args1 {a : Operand} {x : Value} (h : evT T a = x) : (#[a] : Array Operand).map (evT T) = #[x] := by simp [h]
theorem args2 {a c : Operand} {x y : Value} (h : evT T a = x) (h2 : evT T c = y) : (#[a, c] : Array Operand).map (evT T) = #[x, y] := by simp [h, h2]
theorem args3 {a c e : Operand} {x y z : Value} (h : evT T a = x) (h2 : evT T c = y) (h3 : evT T e = z) : (#[a, c, e] : Array Operand).map (evT T) = #[x, y, z] := by simp [h, h2, h3]
theorem args4 {a c e f : Operand} {x y z u : Value} (h : evT T a = x) (h2 : evT T c = y) (h3 : evT T e = z) (h4 : evT T f = u) : (#[a, c, e, f] : Array Operand).map (evT T) = #[x, y, z, u] := by simp [h, h2, h3, h4]

end

/-! ### What operations run to -/
section
variable {P : Program} {w : World} {ρ : Operand → Value} {d : Option Tmp} {ty : TypeId} {pos : String} {af : Array Edge} {g : Option (Nat × Bool)}

theorem x_move {x : Operand} {v : Value} (h : ρ x = v) : (execOp ρ ⟨d, .move x, ty, pos, af, g⟩).run P w = .ok (.value v) w := by subst h; rfl
theorem x_assign {x : Operand} {v : Value} (h : ρ x = v) : (execOp ρ ⟨d, .assign x, ty, pos, af, g⟩).run P w = .ok (.value v) w := by subst h; rfl
theorem x_pickT {c x y : Operand} {v : Value} (hc : ρ c = .bool true) (h : ρ x = v) : (execOp ρ ⟨d, .pick c x y, ty, pos, af, g⟩).run P w = .ok (.value v) w := by simp [execOp, hc, asBool, h]
theorem x_pickF {c x y : Operand} {v : Value} (hc : ρ c = .bool false) (h : ρ y = v) : (execOp ρ ⟨d, .pick c x y, ty, pos, af, g⟩).run P w = .ok (.value v) w := by simp [execOp, hc, asBool, h]
theorem x_not {t : TypeId} {x : Operand} {c : Bool} (h : ρ x = .bool c) : (execOp ρ ⟨d, .unOp .not t x, ty, pos, af, g⟩).run P w = .ok (.value (.bool !c)) w := by simp [execOp, h, Op.unary]
theorem x_notT {t : TypeId} {x : Operand} (h : ρ x = .bool true) : (execOp ρ ⟨d, .unOp .not t x, ty, pos, af, g⟩).run P w = .ok (.value (.bool false)) w := x_not h
theorem x_notF {t : TypeId} {x : Operand} (h : ρ x = .bool false) : (execOp ρ ⟨d, .unOp .not t x, ty, pos, af, g⟩).run P w = .ok (.value (.bool true)) w := x_not h

theorem x_add {t u : TypeId} {x y : Operand} {q : IntKind} {a c z : Int} (hx : ρ x = .int q a) (hy : ρ y = .int q c) (hz : q.wrap (a + c) = z) : (execOp ρ ⟨d, .binOp .add t x y u, ty, pos, af, g⟩).run P w = .ok (.value (.int q z)) w := by
  simp [execOp, hx, hy, eqGuard, binOp, Op.intArith, hz]
theorem x_sub {t u : TypeId} {x y : Operand} {q : IntKind} {a c z : Int} (hx : ρ x = .int q a) (hy : ρ y = .int q c) (hz : q.wrap (a - c) = z) : (execOp ρ ⟨d, .binOp .sub t x y u, ty, pos, af, g⟩).run P w = .ok (.value (.int q z)) w := by
  simp [execOp, hx, hy, eqGuard, binOp, Op.intArith, hz]
theorem x_mul {t u : TypeId} {x y : Operand} {q : IntKind} {a c z : Int} (hx : ρ x = .int q a) (hy : ρ y = .int q c) (hz : q.wrap (a * c) = z) : (execOp ρ ⟨d, .binOp .mul t x y u, ty, pos, af, g⟩).run P w = .ok (.value (.int q z)) w := by
  simp [execOp, hx, hy, eqGuard, binOp, Op.intArith, hz]
theorem x_lss {t u : TypeId} {x y : Operand} {q : IntKind} {a c : Int} (hx : ρ x = .int q a) (hy : ρ y = .int q c) : (execOp ρ ⟨d, .binOp .lss t x y u, ty, pos, af, g⟩).run P w = .ok (.value (.bool (decide (a < c)))) w := by
  simp [execOp, hx, hy, eqGuard, binOp, Op.intCmp]
theorem x_leq {t u : TypeId} {x y : Operand} {q : IntKind} {a c : Int} (hx : ρ x = .int q a) (hy : ρ y = .int q c) : (execOp ρ ⟨d, .binOp .leq t x y u, ty, pos, af, g⟩).run P w = .ok (.value (.bool (decide (a ≤ c)))) w := by
  simp [execOp, hx, hy, eqGuard, binOp, Op.intCmp]
theorem x_gtr {t u : TypeId} {x y : Operand} {q : IntKind} {a c : Int} (hx : ρ x = .int q a) (hy : ρ y = .int q c) : (execOp ρ ⟨d, .binOp .gtr t x y u, ty, pos, af, g⟩).run P w = .ok (.value (.bool (decide (c < a)))) w := by
  simp [execOp, hx, hy, eqGuard, binOp, Op.intCmp]
theorem x_geq {t u : TypeId} {x y : Operand} {q : IntKind} {a c : Int} (hx : ρ x = .int q a) (hy : ρ y = .int q c) : (execOp ρ ⟨d, .binOp .geq t x y u, ty, pos, af, g⟩).run P w = .ok (.value (.bool (decide (c ≤ a)))) w := by
  simp [execOp, hx, hy, eqGuard, binOp, Op.intCmp]
theorem x_eql {t u : TypeId} {x y : Operand} {q : IntKind} {a c : Int} (hx : ρ x = .int q a) (hy : ρ y = .int q c) : (execOp ρ ⟨d, .binOp .eql t x y u, ty, pos, af, g⟩).run P w = .ok (.value (.bool (decide (a = c)))) w := by
  simp [execOp, hx, hy, eqGuard, binOp, Op.intCmp, BEq.beq]
theorem x_neq {t u : TypeId} {x y : Operand} {q : IntKind} {a c : Int} (hx : ρ x = .int q a) (hy : ρ y = .int q c) : (execOp ρ ⟨d, .binOp .neq t x y u, ty, pos, af, g⟩).run P w = .ok (.value (.bool (decide (a ≠ c)))) w := by
  simp [execOp, hx, hy, eqGuard, binOp, Op.intCmp, bne, BEq.beq]

theorem x_fieldAddr {s : TypeId} {x : Operand} {f n bk off : Nat} (hx : ρ x = .pointer (some ⟨bk, off, none⟩)) (hf : ∀ a w, (Instr.fieldAt s (.pointer (some a)) f).run P w = .ok (.pointer (some (a.add n))) w) :
    (execOp ρ ⟨d, .fieldAddr s x f, ty, pos, af, g⟩).run P w = .ok (.value (.pointer (some ⟨bk, off + n, none⟩))) w := by
  simp [execOp, hx, hf, add_plain']
theorem x_load {t : TypeId} {x : Operand} {a : Addr} {v : Value} (hx : ρ x = .pointer (some a)) (ha : ∀ w, (isAgg t).run P w = .ok false w) (hc : w.cell? a = some v) :
    (execOp ρ ⟨d, .load t x, ty, pos, af, g⟩).run P w = .ok (.value v) w := by
  simp [execOp, hx, Instr.loadAt, Instr.sureAddr, loadVar, ha, hc]
/-- cells one behind the other -/
def CellsAt (w : World) (bk off : Nat) (l : List Value) : Prop := ∀ j u, l[j]? = some u → w.cell? ⟨bk, off + j, none⟩ = some u
theorem x_loadA {t : TypeId} {x : Operand} {bk off n : Nat} {l : List Value} (hx : ρ x = .pointer (some ⟨bk, off, none⟩)) (ha : ∀ w, (isAgg t).run P w = .ok true w) (hs : ∀ w, (sizeOf t).run P w = .ok n w)
    (hc : CellsAt w bk off l) (hl : l.length = n) : (execOp ρ ⟨d, .load t x, ty, pos, af, g⟩).run P w = .ok (.value (.agg l.toArray)) w := by
  have h := run_loadCells_list (P := P) w ⟨bk, off, none⟩ l (fun j u hj => by rw [add_plain']; exact hc j u hj)
  subst hl
  simp [execOp, hx, Instr.loadAt, Instr.sureAddr, loadVar, ha, hs, h]
theorem x_nil {x : Operand} {a : Addr} (hx : ρ x = .pointer (some a)) : (execOp ρ ⟨d, .nilCheck x, ty, pos, af, g⟩).run P w = .ok (.value (.pointer (some a))) w := by
  simp [execOp, hx]
theorem x_ixA {t e : TypeId} {x y : Operand} {bk off len sz : Nat} {q : IntKind} {n : Int} (hx : ρ x = .pointer (some ⟨bk, off, none⟩)) (hy : ρ y = .int q n) (hu : ∀ w, (underlying t).run P w = .ok (.array len e) w)
    (hs : ∀ w, (sizeOf e).run P w = .ok sz w) (h0 : 0 ≤ n) (h1 : n < len) : (execOp ρ ⟨d, .indexAddr t x y, ty, pos, af, g⟩).run P w = .ok (.value (.pointer (some ⟨bk, off + n.toNat * sz, none⟩))) w := by
  simp [execOp, hx, hy, Instr.indexAt, asIntOf, hu, Instr.sureAddr, h0, h1, hs, add_plain']
theorem x_ixS {t e : TypeId} {x y : Operand} {bk off len cap sz : Nat} {q : IntKind} {n : Int} (hx : ρ x = .slice (some ⟨bk, off, none⟩) len cap) (hy : ρ y = .int q n) (hu : ∀ w, (underlying t).run P w = .ok (.slice e) w)
    (hs : ∀ w, (sizeOf e).run P w = .ok sz w) (h0 : 0 ≤ n) (h1 : n < len) : (execOp ρ ⟨d, .indexAddr t x y, ty, pos, af, g⟩).run P w = .ok (.value (.pointer (some ⟨bk, off + n.toNat * sz, none⟩))) w := by
  simp [execOp, hx, hy, Instr.indexAt, asIntOf, hu, h0, h1, hs, add_plain']
theorem x_len {x : Operand} {t e : TypeId} {A : Option Addr} {n c : Nat} (hx : ρ x = .slice A n c) (hu : ∀ w, (underlying t).run P w = .ok (.slice e) w) :
    (execOp ρ ⟨d, .call { callee := .builtin .len, args := #[x], argTypes := #[t] }, ty, pos, af, g⟩).run P w = .ok (.value (.int .i64 (n : Int))) w := by
  simp [execOp, resolve, hx, invoke, builtin, Builtin.len_, hu, goInt]
theorem x_extract {x : Operand} {n : Nat} {vs : Array Value} {v : Value} (hx : ρ x = .tuple vs) (hv : vs[n]? = some v) : (execOp ρ ⟨d, .extract x n, ty, pos, af, g⟩).run P w = .ok (.value v) w := by
  simp [execOp, hx, Instr.extract, hv]
theorem x_box {e : TypeId} {x : Operand} {l : List Value} {v : Value} (hx : ρ x = v) (hv : v.cells = l.toArray) : (execOp ρ ⟨d, .box e x, ty, pos, af, g⟩).run P w = .ok (.value (.pointer (some ⟨w.heap.size, 0, none⟩))) (w.alloc (.cells l.toArray e)) := by
  simp [execOp, hx, Instr.box, newVar, newRow, hv]
theorem x_alloc {e : TypeId} {l : List Value} {v : Value} (hz : ∀ w, (zeroValue e).run P w = .ok v w) (hv : v.cells = l.toArray) : (execOp ρ ⟨d, .alloc e, ty, pos, af, g⟩).run P w = .ok (.value (.pointer (some ⟨w.heap.size, 0, none⟩))) (w.alloc (.cells l.toArray e)) := by
  simp [execOp, Instr.alloc, hz, newVar, newRow, hv]
theorem x_makeMap {t : TypeId} : (execOp ρ ⟨d, .makeMap t none, ty, pos, af, g⟩).run P w = .ok (.value (.map (some w.heap.size))) (w.alloc (.map #[] 0)) := by
  simp [execOp, Instr.makeMap]
theorem x_makeFunc {fn : Fn} {xs ys : Array Operand} {us vs : Array Value} (hx : xs.map ρ = us) (hy : ys.map ρ = vs) : (execOp ρ ⟨d, .makeFunc fn xs ys, ty, pos, af, g⟩).run P w = .ok (.value (.func fn us vs)) w := by
  subst hx hy; rfl
theorem x_makeIface {t : TypeId} {x : Operand} {v : Value} {u : TypeDesc} (hx : ρ x = v) (hu : ∀ w, (underlying t).run P w = .ok u w) (hn : ∀ ms, u ≠ .interface ms) : (execOp ρ ⟨d, .makeInterface t x, ty, pos, af, g⟩).run P w = .ok (.value (.iface t v)) w := by
  simp only [execOp, hx, Instr.makeInterface, Sem.run_bind, hu, Result.andThen_ok]
  cases u <;> first | rfl | exact absurd rfl (hn _)
theorem x_panic {x : Operand} {t : TypeId} {v : Value} (hx : ρ x = .iface t v) : (execOp ρ ⟨d, .panic x, ty, pos, af, g⟩).run P w = .halt (.panic (.iface t v)) w := by
  simp [execOp, hx, Instr.panic]
theorem x_build1 {t : TypeId} {a : Nat} {x : Operand} {u v : Value} (hx : ρ x = u) (hr : (Instr.build t #[(a, u)]).run P w = .ok v w) : (execOp ρ ⟨d, .build t #[(a, x)], ty, pos, af, g⟩).run P w = .ok (.value v) w := by
  simp [execOp, hx, hr]
theorem x_build2 {t : TypeId} {a a' : Nat} {x x' : Operand} {u u' v : Value} (hx : ρ x = u) (hx' : ρ x' = u') (hr : (Instr.build t #[(a, u), (a', u')]).run P w = .ok v w) : (execOp ρ ⟨d, .build t #[(a, x), (a', x')], ty, pos, af, g⟩).run P w = .ok (.value v) w := by
  simp [execOp, hx, hx', hr]
end
end Go.Sx
end
section
namespace Go.Sx
open Go.RowKit

theorem w64 {x : Int} (h1 : -9223372036854775808 ≤ x) (h2 : x ≤ 9223372036854775807) : IntKind.i64.wrap x = x := IntWalk.i64_in x (by omega)

/-- what a contract mostly says: a value is returned, no old memory has turned -/
def Ret (w : World) (Q : Value → World → Prop) : Ending → World → Prop := fun e w' => ∃ v, e = .returned v ∧ Fr [] w w' ∧ Q v w'

theorem Ret.mk {w w' : World} {Q : Value → World → Prop} {v : Value} (hf : Fr [] w w') (hQ : Q v w') : Ret w Q (.returned v) w' := ⟨v, rfl, hf, hQ⟩

/-- .. and new memory is handed over, of which the entries are known -/
def RetG (w : World) (Q : Value → List Ent → World → Prop) : Ending → World → Prop := fun e w' => ∃ v E, e = .returned v ∧ Fr [] w w' ∧ (∀ x ∈ E, x.holds w') ∧ (∀ x ∈ E, ∀ k ∈ x.keys, w.heap.size ≤ k) ∧ (E.flatMap Ent.keys).Nodup ∧ Q v E w'

/-- a panic, no old memory has turned -/
def Pans (w : World) (v : Value) : Ending → World → Prop := fun e w' => e = .panicked [{ v, recovered := false }] ∧ Fr [] w w'

section
variable {P : Program} {Φ : Machine → Prop} {b : Frame} {cs : List Frame} {D : List Deferred} {k : List Item} {T : Array Value} {w : World}
variable {w0 : World} {S : List Nat} {N : Nat} {R : List (Nat × Value)} {G : List Ent}
variable {ops : Array Oper} {i : Nat} {rest : List Nat} {o : Oper}

theorem At.region' {id : Nat} {l : List Nat} (hl : List.range ops.size = l) (h : At P Φ b cs D (.inRegion ops l :: k) T w) :
    At P Φ b cs D (.code (.region id ops false) :: k) T w := by subst hl; exact At.region h

theorem Sx.cellsAt (H : Sx w0 S N R G T w) {bk : Nat} {L : List Value} {ty : TypeId} {fz : Nat × Nat} {off n : Nat} {l : List Value} (h : Ent.blk bk (Eo (.cells L.toArray ty fz)) ∈ G) (hl : (L.drop off).take n = l) :
    CellsAt w bk off l := by
  intro j u hj
  subst hl
  refine H.cell h (off + j) ?_
  rw [List.getElem?_take] at hj
  split at hj
  · rw [List.getElem?_drop] at hj
    simpa using hj
  · cases hj

theorem At.f0 {f : FuncId} {xs : Array Operand} {ts : Array TypeId} {args : Array Value} {Q : Value → World → Prop} {d : Tmp} (H : Sx w0 S N R G T w) (ho : ops[i]? = some o) (hw : Region.wanted o (yielded ops T) = true)
    (hop : o.op = .call { callee := .value (.func f), args := xs, argTypes := ts }) (hd : o.dst = some d) (hN : Nat.blt d N = true) (ha : xs.map (evT T) = args) (hf : ∀ (args : Array Value) w, (callFunc f args).run P w = .ok (.enter f args) w)
    (hc : Calls P f args w (Ret w Q)) (K : ∀ v T' w', Q v w' → Fr [] w w' → Sx w0 S N ((d, v) :: R) G T' w' → At P Φ b cs D (.inRegion ops rest :: k) T' w') :
    At P Φ b cs D (.inRegion ops (i :: rest) :: k) T w := by
  refine At.f ho hw hop ha hf hc ?_
  rintro e w2 ⟨v, rfl, hfr, hQ⟩
  show At _ _ _ _ _ _ _ _
  rw [hd]
  exact K v _ w2 hQ hfr ((H.world hfr).put d v (lt_of_blt hN))

theorem Sx.adds (H : Sx w0 S N R G T w) {w' : World} (hf : Fr [] w w') : ∀ (E : List Ent), (∀ x ∈ E, x.holds w') → (∀ x ∈ E, ∀ k ∈ x.keys, w.heap.size ≤ k) → (E.flatMap Ent.keys).Nodup → Sx w0 S N R (E ++ G) T w' := by
  intro E hE hk hn
  have H' := H.world hf
  refine ⟨H'.fr, H.size, H.reg, ?_, ?_, ?_⟩
  · intro y hy
    rcases List.mem_append.1 hy with hy | hy
    · exact hE y hy
    · exact H'.ent y hy
  · intro y hy c hc
    rcases List.mem_append.1 hy with hy | hy
    · exact .inl (Nat.le_trans H.fr.size (hk y hy c (Ent.w_sub _ c hc)))
    · exact H.own y hy c hc
  · rw [List.flatMap_append, List.nodup_append]
    refine ⟨hn, H.nd, ?_⟩
    intro a ha c hc e
    subst e
    obtain ⟨x, hx, hax⟩ := List.mem_flatMap.1 ha
    obtain ⟨y, hy, hay⟩ := List.mem_flatMap.1 hc
    have h1 := Ent.keys_lt (H.ent y hy) a hay
    have h2 := hk x hx a hax
    omega

theorem At.fG {f : FuncId} {xs : Array Operand} {ts : Array TypeId} {args : Array Value} {Q : Value → List Ent → World → Prop} {d : Tmp} (H : Sx w0 S N R G T w) (ho : ops[i]? = some o) (hw : Region.wanted o (yielded ops T) = true)
    (hop : o.op = .call { callee := .value (.func f), args := xs, argTypes := ts }) (hd : o.dst = some d) (hN : Nat.blt d N = true) (ha : xs.map (evT T) = args) (hf : ∀ (args : Array Value) w, (callFunc f args).run P w = .ok (.enter f args) w)
    (hc : Calls P f args w (RetG w Q)) (K : ∀ v E T' w', Q v E w' → Fr [] w w' → Sx w0 S N ((d, v) :: R) (E ++ G) T' w' → At P Φ b cs D (.inRegion ops rest :: k) T' w') :
    At P Φ b cs D (.inRegion ops (i :: rest) :: k) T w := by
  refine At.f ho hw hop ha hf hc ?_
  rintro e w2 ⟨v, E, rfl, hfr, h1, h2, h3, hQ⟩
  show At _ _ _ _ _ _ _ _
  rw [hd]
  exact K v E _ w2 hQ hfr ((H.adds hfr E h1 h2 h3).put d v (lt_of_blt hN))

/-- a call that panics -/
theorem At.fP {f : FuncId} {xs : Array Operand} {ts : Array TypeId} {args : Array Value} {v : Value} (H : Sx w0 S N R G T w) (ho : ops[i]? = some o) (hw : Region.wanted o (yielded ops T) = true)
    (hop : o.op = .call { callee := .value (.func f), args := xs, argTypes := ts }) (ha : xs.map (evT T) = args) (hf : ∀ (args : Array Value) w, (callFunc f args).run P w = .ok (.enter f args) w)
    (hc : Calls P f args w (Pans w v)) (K : ∀ w', Fr [] w w' → Sx w0 S N R G T w' → Pan P Φ b cs D T w' [{ v, recovered := false }]) :
    At P Φ b cs D (.inRegion ops (i :: rest) :: k) T w := by
  refine At.f ho hw hop ha hf hc ?_
  rintro e w2 ⟨rfl, hfr⟩
  exact K w2 hfr (H.world hfr)

/-- the body's entry -/
theorem enter {f : FuncId} {fn : Func} {c : Code} {n : Nat} {args : List Value} {Rr : Ending → World → Prop} {S : List Nat}
    (hf : P.funcs[f]? = some fn) (hb : fn.body = some c) (hn : fn.ntmps = n) (hl : Nat.ble args.length n = true)
    (h : ∀ cs T, Sx w S n (argR 0 args) [] T w → At P (Lv P f cs Rr) (base f) cs [] [.code c] T w) : Calls P f args.toArray w Rr := by
  refine calls_of_at hf hb (fun cs => ?_)
  rw [hn]
  exact h cs _ (Sx.start w S args n (Nat.le_of_ble_eq_true hl))

/-- a return from a function that defers nothing -/
theorem lea {f : FuncId} {fn : Func} {v : Value} {Rr : Ending → World → Prop} (hf : P.funcs[f]? = some fn) (hv : (results fn T).run P w = .ok v w) (hR : Rr (.returned v) w) : Lea P (Lv P f cs Rr) (base f) cs [] T w :=
  Lea.here rfl rfl hf hv hR
theorem pan {f : FuncId} {fn : Func} {chain : List PanicEntry} {Rr : Ending → World → Prop} (hf : P.funcs[f]? = some fn) (hR : Rr (.panicked chain) w) : Pan P (Lv P f cs Rr) (base f) cs [] T w chain :=
  Pan.here rfl hf hR

theorem res0 {fn : Func} (h : fn.results = #[]) : (results fn T).run P w = .ok (.tuple #[]) w := by simp [results, h]
theorem res1 {fn : Func} {t : Tmp} {v : Value} (h : fn.results = #[.tmp t]) (hv : evT T (.tmp t) = v) : (results fn T).run P w = .ok v w := by
  have hv' : T.getD t undef = v := hv
  simp [results, h] at *
  simp [hv']
theorem res2 {fn : Func} {t u : Tmp} {v x : Value} (h : fn.results = #[.tmp t, .tmp u]) (hv : evT T (.tmp t) = v) (hx : evT T (.tmp u) = x) : (results fn T).run P w = .ok (.tuple #[v, x]) w := by
  have hv' : T.getD t undef = v := hv
  have hx' : T.getD u undef = x := hx
  simp [results, h] at *
  simp [hv', hx']
end
end Go.Sx
end
section
namespace Go.Sx
open Go.RowKit

section
variable {P : Program} {w : World} {ρ : Operand → Value} {d : Option Tmp} {ty : TypeId} {pos : String} {af : Array Edge} {g : Option (Nat × Bool)}
theorem x_recover {ts : Array TypeId} : (execOp ρ ⟨d, .call { callee := .builtin .recover, args := #[], argTypes := ts }, ty, pos, af, g⟩).run P w = .ok .recover w := by
  simp [execOp, resolve, invoke, builtin]
theorem x_defer {f : FuncId} {xs : Array Operand} {ts : Array TypeId} {args : Array Value} (hv : ρ (.func f) = .func (.func f) #[] #[]) (ha : xs.map ρ = args) :
    (execOp ρ ⟨d, .defer { callee := .value (.func f), args := xs, argTypes := ts }, ty, pos, af, g⟩).run P w = .ok (.defer { target := .fn (.func f) #[], args := args }) w := by
  subst ha
  simp only [execOp, resolve, hv, Deferred.ofValue, Sem.run_bind, Sem.run_pure, Result.andThen_ok, Array.empty_append]
theorem x_deferV {f : FuncId} {x : Operand} {cap : Array Value} {ts : Array TypeId} (hv : ρ x = .func (.func f) #[] cap) :
    (execOp ρ ⟨d, .defer { callee := .value x, args := #[], argTypes := ts }, ty, pos, af, g⟩).run P w = .ok (.defer { target := .fn (.func f) cap, args := #[] }) w := by
  simp only [execOp, resolve, hv, Deferred.ofValue, Sem.run_bind, Sem.run_pure, Result.andThen_ok, Array.empty_append, List.map_toArray, List.map_nil]
theorem run_eqNilT' {t : TypeId} {ms : Array (String × TypeId)} {n : Nat} (hu : ∀ w, (underlying t).run P w = .ok (.interface ms) w) : (Op.equalIn (n + 1) t .nilIface .nilIface).run P w = .ok true w := by
  simp only [Op.equalIn, Sem.run_bind, hu, Result.andThen_ok, Sem.run_pure]
theorem run_eqNilF' {t t' : TypeId} {v : Value} {ms : Array (String × TypeId)} {n : Nat} (hu : ∀ w, (underlying t).run P w = .ok (.interface ms) w) : (Op.equalIn (n + 1) t (.iface t' v) .nilIface).run P w = .ok false w := by
  simp only [Op.equalIn, Sem.run_bind, hu, Result.andThen_ok, Sem.run_pure]
theorem x_eqNilT {t u : TypeId} {x : Operand} {ms : Array (String × TypeId)} (hx : ρ x = .nilIface) (hy : ρ (.const .nilIface) = .nilIface) (hu : ∀ w, (underlying t).run P w = .ok (.interface ms) w) :
    (execOp ρ ⟨d, .binOp .eql t x (.const .nilIface) u, ty, pos, af, g⟩).run P w = .ok (.value (.bool true)) w := by
  have h : (Op.equal t .nilIface .nilIface).run P w = .ok true w := run_eqNilT' (n := 9999) hu
  simp only [execOp, hx, hy, eqGuard, Bool.or_true, if_true, ite_self, binOp, Sem.run_bind, Sem.run_pure, Result.andThen_ok, h]
theorem x_eqNilF {t u t' : TypeId} {x : Operand} {v : Value} {ms : Array (String × TypeId)} (hx : ρ x = .iface t' v) (hy : ρ (.const .nilIface) = .nilIface) (hu : ∀ w, (underlying t).run P w = .ok (.interface ms) w) :
    (execOp ρ ⟨d, .binOp .eql t x (.const .nilIface) u, ty, pos, af, g⟩).run P w = .ok (.value (.bool false)) w := by
  have h : (Op.equal t (.iface t' v) .nilIface).run P w = .ok false w := run_eqNilF' (n := 9999) hu
  simp only [execOp, hx, hy, eqGuard, ite_self, binOp, Sem.run_bind, Sem.run_pure, Result.andThen_ok, h]
theorem x_ta {x : Operand} {xt t : TypeId} {v : Value} {u : TypeDesc} (hx : ρ x = .iface t v) (hu : ∀ w, (underlying t).run P w = .ok u w) (hn : ∀ ms, u ≠ .interface ms) :
    (execOp ρ ⟨d, .typeAssert x xt t true, ty, pos, af, g⟩).run P w = .ok (.value (.tuple #[v, .bool true])) w := by
  simp only [execOp, hx, Instr.typeAssert, Sem.run_bind, hu, Result.andThen_ok]
  cases u <;> first | (exact absurd rfl (hn _)) | simp

/-! #### maps with whole keys -/
theorem run_findKey {t : TypeId} {kt : TypeDesc} {x : Value} {es : List MapEntry} {r : Option (Nat × Value)} (hu : ∀ w, (underlying t).run P w = .ok kt w) (h : Instr.findNow kt x es 0 = some r) :
    (Instr.findKey t x es).run P w = .ok r w := by
  simp only [Instr.findKey, Sem.run_bind, hu, Result.andThen_ok, h, Sem.run_pure]
theorem run_checkKey' {t : TypeId} {q : IntKind} {v : Value} {e : Bool} {n : Nat} (hu : ∀ w, (underlying t).run P w = .ok (.int q) w) : (Instr.checkKey e (n + 1) t v).run P w = .ok () w := by
  simp only [Instr.checkKey, Sem.run_bind, hu, Result.andThen_ok, Sem.run_pure]
theorem run_checkKey {t : TypeId} {q : IntKind} {v : Value} {e : Bool} (hu : ∀ w, (underlying t).run P w = .ok (.int q) w) : (Instr.checkKey e 10000 t v).run P w = .ok () w := run_checkKey' (n := 9999) hu
theorem x_lookup {t kt et : TypeId} {x y : Operand} {b : Nat} {q : IntKind} {n : Int} {es : Array MapEntry} {ck : Nat} {r : Option (Nat × Value)} {c : Bool} {z v : Value}
    (hx : ρ x = .map (some b)) (hy : ρ y = .int q n) (hu : ∀ w, (underlying t).run P w = .ok (.map kt et) w) (hk : ∀ w, (underlying kt).run P w = .ok (.int q) w)
    (hz : ∀ w, (zeroValue et).run P w = .ok z w) (hb : w.heap[b]? = some (.map es ck)) (hf : Instr.findNow (.int q) (.int q n) es.toList 0 = some r)
    (hv : v = if c then .tuple #[(match r with | some (_, v) => v | none => z), .bool r.isSome] else (match r with | some (_, v) => v | none => z)) :
    (execOp ρ ⟨d, .lookup t x y c, ty, pos, af, g⟩).run P w = .ok (.value v) w := by
  subst hv
  have hg : (getObj b).run P w = .ok (.map es ck) w := by simp [getObj, Sem.run, hb]
  simp only [execOp, hx, hy, Instr.lookup, Sem.run_bind, hu, Result.andThen_ok, hg, Sem.run_pure, run_checkKey hk, run_findKey hk hf]
  cases r with
  | none => cases c <;> simp [hz]
  | some p => cases c <;> simp

/-- a store into a map with whole keys -/
def storeMap (es : Array MapEntry) (ck : Nat) (key v : Value) : Option (Nat × Value) → Obj
  | some (i, _) => .map (es.modify i fun e => { e with key, val := v }) ck
  | none => .map (es.push { key, val := v, born := ck }) (ck + 1)

theorem run_mapUpdate {t kt et : TypeId} {b : Nat} {q : IntKind} {n : Int} {es : Array MapEntry} {ck : Nat} {r : Option (Nat × Value)} {v : Value}
    (hu : ∀ w, (underlying t).run P w = .ok (.map kt et) w) (hk : ∀ w, (underlying kt).run P w = .ok (.int q) w)
    (hb : w.heap[b]? = some (.map es ck)) (hf : Instr.findNow (.int q) (.int q n) es.toList 0 = some r)
    (hr : ∀ i u, r = some (i, u) → (es[i]?).map (·.key) = some (.int q n)) :
    (Instr.mapUpdate t (.map (some b)) (.int q n) v).run P w = .ok () (setO w b (storeMap es ck (.int q n) v r)) := by
  have hg : (getObj b).run P w = .ok (.map es ck) w := by simp [getObj, Sem.run, hb]
  have hs : ∀ o, (setObj b o).run P w = .ok () (setO w b o) := fun o => by simp [setObj, Sem.run, hb, setO]
  simp only [Instr.mapUpdate, Sem.run_bind, hu, Result.andThen_ok, hg, run_checkKey hk, run_findKey hk hf]
  cases r with
  | none => simp only [hs, storeMap]
  | some p =>
    obtain ⟨i, u⟩ := p
    have := hr i u rfl
    simp only [this, Option.getD_some, Instr.keyThatStays, Instr.sameBits, BEq.rfl, Bool.and_self, if_true, Sem.run_bind, Sem.run_pure, Result.andThen_ok, hs, storeMap]
end

section
variable {P : Program} {Φ : Machine → Prop} {b : Frame} {cs : List Frame} {D : List Deferred} {k : List Item} {T : Array Value} {w : World}
variable {w0 : World} {S : List Nat} {N : Nat} {R : List (Nat × Value)} {G : List Ent}
variable {ops : Array Oper} {i : Nat} {rest : List Nat} {o : Oper}

/-- 'insert', 'mapUpdate': a store into a map of the call's own -/
theorem At.mapSet {t kt et : TypeId} {x y u : Operand} {g : Nat} {q : IntKind} {n : Int} {es : Array MapEntry} {ck : Nat} {r : Option (Nat × Value)} {v : Value} {G' : List Ent} {ob : Obj}
    (H : Sx w0 S N R G T w) (ho : ops[i]? = some o) (hw : Region.wanted o (yielded ops T) = true)
    (hop : o.op = .mapUpdate t x y u ∨ o.op = .insert t x y u) (hd : o.dst = none)
    (hx : evT T x = .map (some g)) (hy : evT T y = .int q n) (hv : evT T u = v) (hu : ∀ w, (underlying t).run P w = .ok (.map kt et) w) (hk : ∀ w, (underlying kt).run P w = .ok (.int q) w)
    (hupd : Upd (.blk g (Eo ob)) (.blk g (Eo (.map es ck))) G G') (hf : Instr.findNow (.int q) (.int q n) es.toList 0 = some r) (hob : storeMap es ck (.int q n) v r = ob)
    (hr : ∀ i u, r = some (i, u) → (es[i]?).map (·.key) = some (.int q n))
    (K : ∀ T' w', Fr [g] w w' → Sx w0 S N R G' T' w' → At P Φ b cs D (.inRegion ops rest :: k) T' w') :
    At P Φ b cs D (.inRegion ops (i :: rest) :: k) T w := by
  have hg := H.heap hupd.mem
  have hrun := run_mapUpdate (P := P) (w := w) (v := v) hu hk hg hf hr
  subst hob
  refine At.opS (w' := setO w g (storeMap es ck (.int q n) v r)) ho hw (by rcases hop with h | h <;> rw [h] <;> rfl) ?_ ?_
  · unfold execOp
    rcases hop with h | h <;> rw [h] <;> simp only [hx, hy, hv, Sem.run_bind, hrun, Result.andThen_ok] <;> rfl
  · rw [hd]
    exact K _ _ (Fr.setO _ _ _) (H.upd hupd (Fr.setO _ _ _) ⟨_, setO_same hg, rfl⟩ (by simp [Ent.keys, Ent.w]) (by simp [Ent.keys]))

/-- the start of a body, with memory that is the caller's and may turn -/
theorem Sx.startG (w : World) (S : List Nat) (G : List Ent) (args : List Value) (n : Nat) (h : args.length ≤ n) (hG : ∀ x ∈ G, x.holds w) (hS : ∀ x ∈ G, ∀ k ∈ x.keys, k ∈ S) (hn : (G.flatMap Ent.keys).Nodup) :
    Sx w S n (argR 0 args) G (args.toArray ++ Array.replicate (n - args.toArray.size) undef) w :=
  ⟨Fr.refl _ _, (Sx.start w S args n h).size, (Sx.start w S args n h).reg, hG, fun x hx k hk => .inr (hS x hx k (Ent.w_sub _ k hk)), hn⟩

theorem enterG {f : FuncId} {fn : Func} {c : Code} {n : Nat} {args : List Value} {Rr : Ending → World → Prop} {S : List Nat} {G : List Ent}
    (hf : P.funcs[f]? = some fn) (hb : fn.body = some c) (hn : fn.ntmps = n) (hl : Nat.ble args.length n = true)
    (hG : ∀ x ∈ G, x.holds w) (hS : ∀ x ∈ G, ∀ k ∈ x.keys, k ∈ S) (hnd : (G.flatMap Ent.keys).Nodup)
    (h : ∀ cs T, Sx w S n (argR 0 args) G T w → At P (Lv P f cs Rr) (base f) cs [] [.code c] T w) : Calls P f args.toArray w Rr := by
  refine calls_of_at hf hb (fun cs => ?_)
  rw [hn]
  exact h cs _ (Sx.startG w S G args n (Nat.le_of_ble_eq_true hl) hG hS hnd)

/-- a deferred function's body -/
theorem enterD {f : FuncId} {fn : Func} {c : Code} {n : Nat} {args : List Value} {u : FrameMode} {Rr : FrameMode → World → Prop} {S : List Nat} {G : List Ent}
    (hf : P.funcs[f]? = some fn) (hb : fn.body = some c) (hn : fn.ntmps = n) (hl : Nat.ble args.length n = true)
    (hG : ∀ x ∈ G, x.holds w) (hS : ∀ x ∈ G, ∀ k ∈ x.keys, k ∈ S) (hnd : (G.flatMap Ent.keys).Nodup)
    (h : ∀ (c₀ : Frame) (cs : List Frame) T, c₀.mode = u → Sx w S n (argR 0 args) G T w → At P (fun m => ∃ u' w', Rr u' w' ∧ m = lone { c₀ with mode := u' } cs w') (baseD f) (c₀ :: cs) [] [.code c] T w) : DefC P f args.toArray u w Rr := by
  refine defC_of_at hf hb (fun c₀ cs hu => ?_)
  rw [hn]
  exact h c₀ cs _ hu (Sx.startG w S G args n (Nat.le_of_ble_eq_true hl) hG hS hnd)

theorem leaD {f : FuncId} {fn : Func} {v : Value} {c₀ : Frame} {cs : List Frame} {Rr : FrameMode → World → Prop} {u u' : FrameMode} (hf : P.funcs[f]? = some fn) (hv : (results fn T).run P w = .ok v w) (hu : c₀.mode = u) (hs : settle u = u') (hR : Rr u' w) :
    Lea P (fun m => ∃ u' w', Rr u' w' ∧ m = lone { c₀ with mode := u' } cs w') (baseD f) (c₀ :: cs) [] T w :=
  Lea.deferred rfl rfl hf hv ⟨u', w, hR, by rw [hu, hs]⟩
theorem leaD' {f : FuncId} {fn : Func} {v : Value} {c₀ : Frame} {cs : List Frame} {Rr : FrameMode → World → Prop} {u1 u' : FrameMode} (hf : P.funcs[f]? = some fn) (hv : (results fn T).run P w = .ok v w) (hs : settle u1 = u') (hR : Rr u' w) :
    Lea P (fun m => ∃ u' w', Rr u' w' ∧ m = lone { c₀ with mode := u' } cs w') (baseD f) ({ c₀ with mode := u1 } :: cs) [] T w :=
  Lea.deferred (c := { c₀ with mode := u1 }) rfl rfl hf hv ⟨u', w, hR, by simp only [hs]⟩

/-- 'recover()': no panic -/
theorem At.rec0 {d : Tmp} {c₀ : Frame} {cs : List Frame} (H : Sx w0 S N R G T w) (hk : b.kind = .deferred) (hro : b.roundOf = none) (ho : ops[i]? = some o) (hw : Region.wanted o (yielded ops T) = true) (hn : noDefer o.op = true) (hd : o.dst = some d) (hN : Nat.blt d N = true)
    (hu : c₀.mode = .returning) (hr : (execOp (evT T) o).run P w = .ok .recover w)
    (K : ∀ T', Sx w0 S N ((d, .nilIface) :: R) G T' w → At P Φ b (c₀ :: cs) D (.inRegion ops rest :: k) T' w) :
    At P Φ b (c₀ :: cs) D (.inRegion ops (i :: rest) :: k) T w :=
  At.recover (v := .nilIface) (cs' := c₀ :: cs) hk ho hw hn hro hr (.inr ⟨by simp [recoverD, hu], rfl, rfl⟩) (by rw [hd]; exact K _ (H.put d _ (lt_of_blt hN)))
/-- .. a panic -/
theorem At.rec1 {d : Tmp} {c₀ : Frame} {cs : List Frame} {v : Value} {older : List PanicEntry} (H : Sx w0 S N R G T w) (hk : b.kind = .deferred) (hro : b.roundOf = none) (ho : ops[i]? = some o) (hw : Region.wanted o (yielded ops T) = true) (hn : noDefer o.op = true) (hd : o.dst = some d) (hN : Nat.blt d N = true)
    (hu : c₀.mode = .panicking ({ v, recovered := false } :: older)) (hr : (execOp (evT T) o).run P w = .ok .recover w)
    (K : ∀ T', Sx w0 S N ((d, v) :: R) G T' w → At P Φ b ({ c₀ with mode := .panicking ({ v, recovered := true } :: older) } :: cs) D (.inRegion ops rest :: k) T' w) :
    At P Φ b (c₀ :: cs) D (.inRegion ops (i :: rest) :: k) T w :=
  At.recover (v := v) (cs' := { c₀ with mode := .panicking ({ v, recovered := true } :: older) } :: cs) hk ho hw hn hro hr (.inl (by simp [recoverD, hu])) (by rw [hd]; exact K _ (H.put d _ (lt_of_blt hN)))

end
end Go.Sx
end
section
namespace Go.Sx
open Go.RowKit

/-! ### Maps with whole keys, as functions -/
def lookE (n : Int) : List MapEntry → Option Value
  | [] => none
  | e :: r => match e.key with | .int .i64 m => if n = m then some e.val else lookE n r | _ => lookE n r
def allI (es : List MapEntry) : Prop := ∀ e ∈ es, ∃ m, e.key = .int .i64 m

/-- a map, by what is found in it -/
def Mp (f : Int → Option Value) : Obj → Prop := fun o => ∃ es ck, o = .map es ck ∧ allI es.toList ∧ ∀ n, lookE n es.toList = f n

theorem Mp.nil : Mp (fun _ => none) (.map #[] 0) := ⟨#[], 0, rfl, by simp [allI], fun _ => rfl⟩

theorem findNow_some (n : Int) : ∀ (es : List MapEntry) (j : Nat), allI es → ∃ r, Instr.findNow (.int .i64) (.int .i64 n) es j = some r ∧ r.map (·.2) = lookE n es ∧
    (∀ i u, r = some (i, u) → j ≤ i ∧ (es[i - j]?).map (·.key) = some (.int .i64 n) ∧ ∀ v m, lookE m (es.modify (i - j) fun e => { e with key := .int .i64 n, val := v }) = if m = n then some v else lookE m es) ∧
    (r = none → ∀ m, m = n → lookE m es = none)
  | [], j, _ => ⟨none, rfl, rfl, fun i u h => by simp at h, fun _ m _ => rfl⟩
  | e :: es, j, h => by
    obtain ⟨m0, hm0⟩ := h e (by simp)
    have h' : allI es := fun x hx => h x (by simp [hx])
    by_cases hn : n = m0
    · subst hn
      refine ⟨some (j, e.val), ?_, ?_, ?_, by simp⟩
      · simp [Instr.findNow, Instr.sameNow, hm0]
      · simp [lookE, hm0]
      · intro i u hiu
        simp only [Option.some.injEq, Prod.mk.injEq] at hiu
        obtain ⟨rfl, rfl⟩ := hiu
        refine ⟨Nat.le_refl _, by simp [hm0], ?_⟩
        intro v m
        simp only [Nat.sub_self, List.modify_zero_cons, lookE, hm0]
        by_cases hm : m = n <;> simp [hm]
    · obtain ⟨r, h1, h2, h3, h4⟩ := findNow_some n es (j + 1) h'
      refine ⟨r, ?_, ?_, ?_, ?_⟩
      · have : (n == m0) = false := by simpa using hn
        simp [Instr.findNow, Instr.sameNow, hm0, this, h1]
      · simp [lookE, hm0, hn, h2]
      · intro i u hiu
        obtain ⟨h5, h6, h7⟩ := h3 i u hiu
        have e1 : i - j = (i - (j + 1)) + 1 := by omega
        refine ⟨by omega, ?_, ?_⟩
        · rw [e1]; simpa using h6
        · intro v m
          rw [e1, List.modify_succ_cons]
          simp only [lookE, hm0]
          by_cases hm : m = m0
          · subst hm; simp [Ne.symm hn]
          · simp only [hm, if_false]
            exact h7 v m
      · intro hr m hm
        subst hm
        simp only [lookE, hm0, hn, if_false]
        exact h4 hr _ rfl

theorem lookE_append (n : Int) : ∀ (es es' : List MapEntry), lookE n (es ++ es') = (lookE n es).or (lookE n es')
  | [], es' => by simp [lookE]
  | e :: es, es' => by
    simp only [List.cons_append, lookE]
    split
    · split
      · simp
      · exact lookE_append n es es'
    · exact lookE_append n es es'

theorem Mp.store {f : Int → Option Value} {es : Array MapEntry} {ck : Nat} {n : Int} {v : Value} {r : Option (Nat × Value)} (ha : allI es.toList) (hf : ∀ n, lookE n es.toList = f n)
    (hr : Instr.findNow (.int .i64) (.int .i64 n) es.toList 0 = some r) : Mp (fun m => if m = n then some v else f m) (storeMap es ck (.int .i64 n) v r) := by
  obtain ⟨r', h1, h2, h3, h4⟩ := findNow_some n es.toList 0 ha
  rw [hr] at h1
  obtain rfl : r = r' := by simpa using h1
  cases r with
  | none =>
    refine ⟨_, _, rfl, ?_, ?_⟩
    · intro e he
      simp only [Array.toList_push, List.mem_append, List.mem_singleton] at he
      rcases he with he | rfl
      · exact ha e he
      · exact ⟨n, rfl⟩
    · intro m
      rw [Array.toList_push, lookE_append]
      by_cases hm : m = n
      · subst hm; simp [h4 rfl m rfl, lookE]
      · simp [lookE, hm, hf]
  | some p =>
    obtain ⟨i, u⟩ := p
    obtain ⟨_, h6, h7⟩ := h3 i u rfl
    simp only [Nat.sub_zero] at h6 h7
    refine ⟨_, _, rfl, ?_, ?_⟩
    · intro e he
      rw [Array.toList_modify] at he
      obtain ⟨k, hk⟩ := List.mem_iff_getElem?.1 he
      rw [List.getElem?_modify] at hk
      cases hk2 : es.toList[k]? with
      | none => simp [hk2] at hk
      | some e0 =>
        rw [hk2] at hk
        obtain ⟨m0, hm0⟩ := ha e0 (List.mem_of_getElem? hk2)
        by_cases hik : i = k
        · simp [hik] at hk; exact ⟨n, by rw [← hk]⟩
        · simp [hik] at hk; exact ⟨m0, by rw [← hk]; exact hm0⟩
    · intro m
      rw [Array.toList_modify, h7 v m]
      simp only [hf]

section
variable {P : Program} {w : World} {ρ : Operand → Value} {d : Option Tmp} {ty : TypeId} {pos : String} {af : Array Edge} {g : Option (Nat × Bool)}
theorem x_look {t kt et : TypeId} {x y : Operand} {b : Nat} {n : Int} {f : Int → Option Value} {z : Value}
    (hx : ρ x = .map (some b)) (hy : ρ y = .int .i64 n) (hu : ∀ w, (underlying t).run P w = .ok (.map kt et) w) (hk : ∀ w, (underlying kt).run P w = .ok (.int .i64) w)
    (hz : ∀ w, (zeroValue et).run P w = .ok z w) (hb : ∃ o, w.heap[b]? = some o ∧ Mp f o) :
    (execOp ρ ⟨d, .lookup t x y false, ty, pos, af, g⟩).run P w = .ok (.value ((f n).getD z)) w := by
  obtain ⟨o, ho, es, ck, rfl, ha, hf⟩ := hb
  obtain ⟨r, h1, h2, _⟩ := findNow_some n es.toList 0 ha
  refine x_lookup hx hy hu hk hz ho h1 ?_
  rw [← hf, ← h2]
  cases r <;> rfl
theorem x_lookOk {t kt et : TypeId} {x y : Operand} {b : Nat} {n : Int} {f : Int → Option Value} {z : Value}
    (hx : ρ x = .map (some b)) (hy : ρ y = .int .i64 n) (hu : ∀ w, (underlying t).run P w = .ok (.map kt et) w) (hk : ∀ w, (underlying kt).run P w = .ok (.int .i64) w)
    (hz : ∀ w, (zeroValue et).run P w = .ok z w) (hb : ∃ o, w.heap[b]? = some o ∧ Mp f o) :
    (execOp ρ ⟨d, .lookup t x y true, ty, pos, af, g⟩).run P w = .ok (.value (.tuple #[(f n).getD z, .bool (f n).isSome])) w := by
  obtain ⟨o, ho, es, ck, rfl, ha, hf⟩ := hb
  obtain ⟨r, h1, h2, _⟩ := findNow_some n es.toList 0 ha
  refine x_lookup hx hy hu hk hz ho h1 ?_
  rw [← hf, ← h2]
  cases r <;> rfl
end

section
variable {P : Program} {Φ : Machine → Prop} {b : Frame} {cs : List Frame} {D : List Deferred} {k : List Item} {T : Array Value} {w : World}
variable {w0 : World} {S : List Nat} {N : Nat} {R : List (Nat × Value)} {G : List Ent}
variable {ops : Array Oper} {i : Nat} {rest : List Nat} {o : Oper}

theorem At.mapPut {t kt et : TypeId} {x y u : Operand} {g : Nat} {n : Int} {f : Int → Option Value} {v : Value} {G' : List Ent}
    (H : Sx w0 S N R G T w) (ho : ops[i]? = some o) (hw : Region.wanted o (yielded ops T) = true)
    (hop : o.op = .mapUpdate t x y u ∨ o.op = .insert t x y u) (hd : o.dst = none)
    (hx : evT T x = .map (some g)) (hy : evT T y = .int .i64 n) (hv : evT T u = v) (hu : ∀ w, (underlying t).run P w = .ok (.map kt et) w) (hk : ∀ w, (underlying kt).run P w = .ok (.int .i64) w)
    (hupd : Upd (.blk g (Mp fun m => if m = n then some v else f m)) (.blk g (Mp f)) G G')
    (K : ∀ T' w', Fr [g] w w' → Sx w0 S N R G' T' w' → At P Φ b cs D (.inRegion ops rest :: k) T' w') :
    At P Φ b cs D (.inRegion ops (i :: rest) :: k) T w := by
  obtain ⟨ob, hg, es, ck, rfl, ha, hf⟩ := H.ent _ hupd.mem
  obtain ⟨r, h1, _, h3, _⟩ := findNow_some n es.toList 0 ha
  have hrun := run_mapUpdate (P := P) (w := w) (v := v) hu hk hg h1 (fun i u h => by have := (h3 i u h).2.1; simpa using this)
  refine At.opS (w' := setO w g (storeMap es ck (.int .i64 n) v r)) ho hw (by rcases hop with h | h <;> rw [h] <;> rfl) ?_ ?_
  · unfold execOp
    rcases hop with h | h <;> rw [h] <;> simp only [hx, hy, hv, Sem.run_bind, hrun, Result.andThen_ok] <;> rfl
  · rw [hd]
    exact K _ _ (Fr.setO _ _ _) (H.upd hupd (Fr.setO _ _ _) ⟨_, setO_same hg, Mp.store ha hf h1⟩ (by simp [Ent.keys, Ent.w]) (by simp [Ent.keys]))
end
end Go.Sx
end
section
namespace Go.Sx
open Go.RowKit

/-! ### Slices that are read -/
structure SlP {α : Type} (enc : α → List Value) (sz : Nat) (w : World) (A : Option Addr) (cap bk off : Nat) (xs : List α) : Prop where
  le : xs.length ≤ cap
  addr : xs ≠ [] → A = some ⟨bk, off, none⟩
  cell : ∀ i x, xs[i]? = some x → CellsAt w bk (off + i * sz) (enc x)

def Sl {α : Type} (enc : α → List Value) (sz : Nat) (w : World) (v : Value) (xs : List α) : Prop :=
  ∃ A cap bk off, v = .slice A xs.length cap ∧ SlP enc sz w A cap bk off xs

theorem CellsAt.fr {S : List Nat} {w w' : World} {bk off : Nat} {l : List Value} (h : CellsAt w bk off l) (hf : Fr S w w') (hS : bk ∉ S) : CellsAt w' bk off l :=
  fun j u hj => hf.cell (h j u hj) hS
theorem CellsAt.fr0 {w w' : World} {bk off : Nat} {l : List Value} (h : CellsAt w bk off l) (hf : Fr [] w w') : CellsAt w' bk off l := h.fr hf (by simp)
theorem SlP.fr {α : Type} {enc : α → List Value} {sz : Nat} {S : List Nat} {w w' : World} {A : Option Addr} {cap bk off : Nat} {xs : List α} (h : SlP enc sz w A cap bk off xs) (hf : Fr S w w') (hS : bk ∉ S) : SlP enc sz w' A cap bk off xs :=
  ⟨h.le, h.addr, fun i x hx => (h.cell i x hx).fr hf hS⟩
theorem SlP.fr0 {α : Type} {enc : α → List Value} {sz : Nat} {w w' : World} {A : Option Addr} {cap bk off : Nat} {xs : List α} (h : SlP enc sz w A cap bk off xs) (hf : Fr [] w w') : SlP enc sz w' A cap bk off xs := h.fr hf (by simp)
theorem Sl.fr0 {α : Type} {enc : α → List Value} {sz : Nat} {w w' : World} {v : Value} {xs : List α} (h : Sl enc sz w v xs) (hf : Fr [] w w') : Sl enc sz w' v xs := by
  obtain ⟨A, cap, bk, off, hv, hp⟩ := h
  exact ⟨A, cap, bk, off, hv, hp.fr0 hf⟩
theorem Sl.nil {α : Type} (enc : α → List Value) (sz : Nat) (w : World) : Sl enc sz w (.slice none 0 0) ([] : List α) :=
  ⟨none, 0, 0, 0, rfl, ⟨Nat.le_refl _, fun h => absurd rfl h, by simp⟩⟩

/-- a part from the front -/
theorem SlP.take {α : Type} {enc : α → List Value} {sz : Nat} {w : World} {A : Option Addr} {cap bk off : Nat} {xs : List α} (h : SlP enc sz w A cap bk off xs) (m : Nat) : SlP enc sz w A cap bk off (xs.take m) := by
  refine ⟨by have := h.le; simp; omega, fun hn => h.addr (fun e => hn (by simp [e])), fun i x hx => h.cell i x ?_⟩
  rw [List.getElem?_take] at hx
  split at hx
  · exact hx
  · cases hx

/-! ### Rows of the call's own -/
structure ET (P : Program) (t e : TypeId) (sz bytes : Nat) (z : Value) : Prop where
  ht : P.underlying t = some (.slice e)
  hi : ∃ i, P.info? e = some i ∧ i.zero = some z ∧ i.size = sz ∧ i.bytes = bytes
  hz : z.cells.size = sz
  h0 : 0 < sz
  hb : bytes ≤ 1048576

/-- one entry is taken out -/
inductive Take (x : Ent) : List Ent → List Ent → Prop where
  | here {r : List Ent} : Take x (x :: r) r
  | there {y : Ent} {r r' : List Ent} : Take x r r' → Take x (y :: r) (y :: r')

theorem Take.split {x : Ent} {G G' : List Ent} (h : Take x G G') : ∃ A B, G = A ++ x :: B ∧ G' = A ++ B := by
  induction h with
  | here => exact ⟨[], _, rfl, rfl⟩
  | there _ ih => obtain ⟨A, B, h1, h2⟩ := ih; exact ⟨_ :: A, B, by rw [h1]; rfl, by rw [h2]; rfl⟩
theorem Take.perm {x : Ent} {G G' : List Ent} (h : Take x G G') : (x :: G').Perm G := by
  obtain ⟨A, B, rfl, rfl⟩ := h.split
  exact List.perm_middle.symm
theorem Take.mem {x : Ent} {G G' : List Ent} (h : Take x G G') : x ∈ G := h.perm.subset (by simp)

section
variable {P : Program} {Φ : Machine → Prop} {b : Frame} {cs : List Frame} {D : List Deferred} {k : List Item} {T : Array Value} {w : World}
variable {w0 : World} {S : List Nat} {N : Nat} {R : List (Nat × Value)} {G : List Ent}
variable {ops : Array Oper} {i : Nat} {rest : List Nat} {o : Oper}

theorem Sx.extA (H : Sx w0 S N R G T w) {bk off : Nat} {l : List Value} (h : CellsAt w0 bk off l) (hS : bk ∉ S) : CellsAt w bk off l := h.fr H.fr hS

theorem Sx.front (H : Sx w0 S N R G T w) {x : Ent} {G0 : List Ent} (h : Take x G G0) : Sx w0 S N R (x :: G0) T w := H.perm h.perm
theorem Sx.drop (H : Sx w0 S N R G T w) {x : Ent} {G0 : List Ent} (h : Take x G G0) : Sx w0 S N R G0 T w := (H.front h).sublist (List.sublist_cons_self _ _)

/-- the nil slice is a row of nothing -/
theorem Sx.addNil (H : Sx w0 S N R G T w) (e : TypeId) (sz : Nat) : Sx w0 S N R (.row (.slice none 0 0) e sz 0 [] :: G) T w := by
  refine ⟨H.fr, H.size, H.reg, ?_, ?_, by simpa [Ent.keys, Value.ownBlock] using H.nd⟩
  · intro x hx
    rcases List.mem_cons.1 hx with rfl | hx
    · exact World.ownsRow_nil w 0 e sz
    · exact H.ent x hx
  · intro x hx
    rcases List.mem_cons.1 hx with rfl | hx
    · simp [Ent.w, Value.ownBlock]
    · exact H.own x hx

theorem row_slice {v : Value} {base : Nat} {e : TypeId} {sz n : Nat} {l : List Value} (h : w.ownsRow base e sz v n l) : ∃ A cap, v = .slice A n cap ∧ n ≤ cap ∧ (0 < n → ∃ g, A = some ⟨g, 0, none⟩) := by
  rcases h.2 with ⟨rfl, rfl⟩ | ⟨g, cap, cur, rfl, _, _, hn, _⟩
  · exact ⟨none, 0, rfl, Nat.le_refl _, fun h => absurd h (Nat.lt_irrefl _)⟩
  · exact ⟨_, cap, rfl, hn, fun _ => ⟨g, rfl⟩⟩

theorem Sx.rowCell (H : Sx w0 S N R G T w) {g n cap : Nat} {e : TypeId} {sz : Nat} {l : List Value} (h : Ent.row (.slice (some ⟨g, 0, none⟩) n cap) e sz n l ∈ G) (j : Nat) {u : Value} (hu : l[j]? = some u) :
    w.cell? ⟨g, j, none⟩ = some u := by
  have ho := H.ent _ h
  have hlt : j < n * sz := by rw [← ho.1]; exact (List.getElem?_eq_some_iff.1 hu).1
  rw [World.ownsRow.cellAt ho j hlt, hu]

/-- what a row reads as -/
theorem row_sl {α : Type} {enc : α → List Value} {v : Value} {base : Nat} {e : TypeId} {sz : Nat} {xs : List α} (hlen : ∀ x, (enc x).length = sz) (h : w.ownsRow base e sz v xs.length (xs.flatMap enc)) : Sl enc sz w v xs := by
  have key : ∀ (xs : List α) i x, xs[i]? = some x → ∀ j u, (enc x)[j]? = some u → (xs.flatMap enc)[i * sz + j]? = some u := by
    intro xs
    induction xs with
    | nil => intro i x hx; simp at hx
    | cons y r ih =>
      intro i x hx j u hj
      rw [List.flatMap_cons]
      cases i with
      | zero =>
        simp only [List.getElem?_cons_zero, Option.some.injEq] at hx
        subst hx
        rw [Nat.zero_mul, Nat.zero_add, List.getElem?_append_left (List.getElem?_eq_some_iff.1 hj).1, hj]
      | succ i =>
        rw [List.getElem?_cons_succ] at hx
        rw [List.getElem?_append_right (by rw [hlen, Nat.succ_mul]; omega), hlen, Nat.succ_mul]
        have := ih i x hx j u hj
        rw [show i * sz + sz + j - sz = i * sz + j by omega]
        exact this
  rcases h.2 with ⟨rfl, hn⟩ | ⟨g, cap, cur, rfl, _, hg, hn, _⟩
  · obtain rfl : xs = [] := List.eq_nil_of_length_eq_zero hn
    exact Sl.nil _ _ _
  · refine ⟨_, cap, g, 0, rfl, ⟨hn, fun _ => rfl, fun i x hx j u hj => ?_⟩⟩
    have hk := key xs i x hx j u hj
    have hlt : i * sz + j < xs.length * sz := by rw [← h.1]; exact (List.getElem?_eq_some_iff.1 hk).1
    rw [Nat.zero_add, World.ownsRow.cellAt h _ hlt, hk]

/-- append of cells that lie somewhere to a row of the call's own -/
theorem At.append {s x : Operand} {t e : TypeId} {sz bytes n m c g off : Nat} {z v : Value} {l news : List Value} {G0 : List Ent} {d : Tmp}
    (H : Sx w0 S N R G T w) (ho : ops[i]? = some o) (hw : Region.wanted o (yielded ops T) = true) (hop : o.op = .call { callee := .builtin .append, args := #[s, x], argTypes := #[t, t] }) (hd : o.dst = some d) (hN : Nat.blt d N = true)
    (E : ET P t e sz bytes z) (hx : evT T s = v) (hy : evT T x = .slice (some ⟨g, off, none⟩) m c) (ht : Take (.row v e sz n l) G G0)
    (hnews : CellsAt w g off news) (hl : news.length = m * sz) (h1 : ∀ u ∈ news, u.oneCell' = true) (hsm : n + m ≤ 1048576)
    (K : ∀ A cap T' w', n + m ≤ cap → (0 < n + m → ∃ g, A = some ⟨g, 0, none⟩) → Sx w0 S N ((d, .slice A (n + m) cap) :: R) (.row (.slice A (n + m) cap) e sz (n + m) (l ++ news) :: G0) T' w' → At P Φ b cs D (.inRegion ops rest :: k) T' w') :
    At P Φ b cs D (.inRegion ops (i :: rest) :: k) T w := by
  have hown := H.ent _ ht.mem
  obtain ⟨i0, hi, hz1, hz2, hz3⟩ := E.hi
  have hb := E.hb
  have h63 : n + m ≤ maxLen := by unfold maxLen; omega
  have hby : (n + m) * bytes ≤ 140737488355328 := Nat.le_trans (Nat.mul_le_mul hsm hb) (by decide)
  obtain ⟨v', w', hr, hown', hg, _, hat⟩ := run_append_own_at (P := P) w 0 t o.type e i0 z sz bytes E.ht hi hz1 hz2 hz3 E.hz E.h0 v n l hown ⟨g, off, none⟩ m c news hl (fun j u hj => by rw [add_plain']; exact hnews j u hj) h1 h63 hby (Nat.zero_le _)
  obtain ⟨A, cap, rfl, hle, hA⟩ := row_slice hown'
  refine At.op (v := .slice A (n + m) cap) (w' := w') ho hw (by rw [hop]; rfl) ?_ ?_
  · unfold execOp
    rw [hop]
    simp [resolve, invoke, builtin, hx, hy, hr]
  · rw [hd]
    refine K A cap _ w' hle hA (Sx.put ?_ d _ (lt_of_blt hN))
    have hu : Upd (.row (.slice A (n + m) cap) e sz (n + m) (l ++ news)) (.row v e sz n l) (.row v e sz n l :: G0) (.row (.slice A (n + m) cap) e sz (n + m) (l ++ news) :: G0) := .here
    refine (H.front ht).upd hu (Fr.grown hg) hown' ?_ ?_
    · intro k hk
      simp only [Ent.keys, Ent.w, Option.mem_toList] at hk ⊢
      rcases hat with h | h
      · exact .inl (by rw [← h]; exact hk)
      · rw [h] at hk
        simp only [Option.some.injEq] at hk
        exact .inr (by omega)
    · simp only [Ent.keys]
      cases (Value.slice A (n + m) cap).ownBlock with
      | none => exact List.nodup_nil
      | some x => simp

/-- append of nothing -/
theorem At.append0 {s x : Operand} {t e : TypeId} {sz bytes n : Nat} {z v : Value} {l : List Value} {d : Tmp} {A : Option Addr} {c : Nat}
    (H : Sx w0 S N R G T w) (ho : ops[i]? = some o) (hw : Region.wanted o (yielded ops T) = true) (hop : o.op = .call { callee := .builtin .append, args := #[s, x], argTypes := #[t, t] }) (hd : o.dst = some d) (hN : Nat.blt d N = true)
    (E : ET P t e sz bytes z) (hx : evT T s = v) (hy : evT T x = .slice A 0 c) (ht : Ent.row v e sz n l ∈ G)
    (K : ∀ T', Sx w0 S N ((d, v) :: R) G T' w → At P Φ b cs D (.inRegion ops rest :: k) T' w) :
    At P Φ b cs D (.inRegion ops (i :: rest) :: k) T w := by
  have hown := H.ent _ ht
  obtain ⟨i0, hi, hz1, hz2, hz3⟩ := E.hi
  have hr : (Builtin.append_ #[t, t] o.type #[v, .slice A 0 c]).run P w = .ok v w := by
    have hf : ∀ A, (Builtin.firstCells i0.size 0 (.slice A 0 c)).run P w = .ok #[] w := by
      intro A
      cases A with
      | none => simp [Builtin.firstCells]
      | some a => simpa using run_firstCells_some (P := P) w i0.size 0 a 0 c [] (by simp) (by simp)
    obtain ⟨B, cap, rfl, hle, _⟩ := row_slice hown
    cases B with
    | none => simp [Builtin.append_, run_underlying E.ht, sizeOf, typeInfo, hi, Builtin.lenOf, hf, hle]
    | some a => simp [Builtin.append_, run_underlying E.ht, sizeOf, typeInfo, hi, Builtin.lenOf, hf, hle, storeCells]
  refine At.op (v := v) (w' := w) ho hw (by rw [hop]; rfl) ?_ ?_
  · unfold execOp
    rw [hop]
    simp [resolve, invoke, builtin, hx, hy, hr]
  · rw [hd]
    exact K _ (H.put d _ (lt_of_blt hN))

/-- a store of one cell into a row of the call's own -/
theorem At.storeR {x y : Operand} {t e : TypeId} {g j n cap sz : Nat} {u : Value} {l l' : List Value} {G0 : List Ent} (H : Sx w0 S N R G T w) (ho : ops[i]? = some o) (hw : Region.wanted o (yielded ops T) = true)
    (hop : o.op = .store t x y) (hd : o.dst = none)
    (hx : evT T x = .pointer (some ⟨g, j, none⟩)) (hy : evT T y = u) (hs : ∀ w, (sizeOf t).run P w = .ok 1 w) (hv : u.cells = #[u]) (h1 : u.oneCell' = true)
    (ht : Take (.row (.slice (some ⟨g, 0, none⟩) n cap) e sz n l) G G0) (hj : j < l.length) (hl : l.set j u = l')
    (K : ∀ T' w', Fr [g] w w' → Sx w0 S N R (.row (.slice (some ⟨g, 0, none⟩) n cap) e sz n l' :: G0) T' w' → At P Φ b cs D (.inRegion ops rest :: k) T' w') :
    At P Φ b cs D (.inRegion ops (i :: rest) :: k) T w := by
  have hown := H.ent _ ht.mem
  obtain ⟨hown', hg⟩ := World.ownsRow.stored hown j u
  have hc : w.cell? ⟨g, j, none⟩ = some l[j] := H.rowCell ht.mem j (by simp)
  have hfz : w.frozen? ⟨g, j, none⟩ = false := World.ownsRow.frozenAt hown j
  subst hl
  refine At.opS (w' := w.setCell ⟨g, j, none⟩ u) ho hw (by rw [hop]; rfl) ?_ ?_
  · unfold execOp
    rw [hop]
    simp [hx, hy, Instr.storeAt, Instr.sureAddr, storeVar, hs, hv, storeCells, run_store, h1, hc, hfz, Addr.add]
  · rw [hd]
    have hu : Upd (.row (.slice (some ⟨g, 0, none⟩) n cap) e sz n (l.set j u)) (.row (.slice (some ⟨g, 0, none⟩) n cap) e sz n l) (.row (.slice (some ⟨g, 0, none⟩) n cap) e sz n l :: G0) (.row (.slice (some ⟨g, 0, none⟩) n cap) e sz n (l.set j u) :: G0) := .here
    refine K _ _ (by simpa using Fr.grown hg) ((H.front ht).upd hu (by simpa [Ent.w, Value.ownBlock] using Fr.grown hg) hown' (fun k hk => .inl hk) ?_)
    simp [Ent.keys, Value.ownBlock]

/-- 'make([]T, n, c)', none in it yet -/
theorem At.make0 {x y : Operand} {t e : TypeId} {sz bytes c : Nat} {z : Value} {d : Tmp} {q q' : IntKind}
    (H : Sx w0 S N R G T w) (ho : ops[i]? = some o) (hw : Region.wanted o (yielded ops T) = true) (hop : o.op = .makeSlice t x y) (hd : o.dst = some d) (hN : Nat.blt d N = true)
    (E : ET P t e sz bytes z) (hx : evT T x = .int q 0) (hy : evT T y = .int q' (c : Int)) (hc : c ≤ 1048576)
    (K : ∀ g T' w', Sx w0 S N ((d, .slice (some ⟨g, 0, none⟩) 0 c) :: R) (.row (.slice (some ⟨g, 0, none⟩) 0 c) e sz 0 [] :: G) T' w' → At P Φ b cs D (.inRegion ops rest :: k) T' w') :
    At P Φ b cs D (.inRegion ops (i :: rest) :: k) T w := by
  obtain ⟨i0, hi, hz1, hz2, hz3⟩ := E.hi
  have hb : i0.bytes * c ≤ 281474976710656 := by
    rw [hz3]; exact Nat.le_trans (Nat.mul_le_mul E.hb hc) (by decide)
  obtain ⟨w', hr, hown, hg⟩ := run_make_own (P := P) w 0 t e i0 z sz E.ht hi hz1 hz2 q q' c hb (by unfold maxLen; omega) (Nat.zero_le _)
  refine At.op (v := .slice (some ⟨w.heap.size, 0, none⟩) 0 c) (w' := w') ho hw (by rw [hop]; rfl) ?_ ?_
  · unfold execOp
    rw [hop]
    simp [hx, hy, hr]
  · rw [hd]
    refine K w.heap.size _ w' (Sx.put ?_ d _ (lt_of_blt hN))
    exact H.new (by simpa using Fr.grown hg) _ hown (by simp [Ent.keys, Value.ownBlock]) (by simp [Ent.keys, Value.ownBlock])

/-- 'make([]T, n)' -/
theorem At.makeN {x y : Operand} {t e : TypeId} {sz bytes c : Nat} {z : Value} {d : Tmp} {q q' : IntKind}
    (H : Sx w0 S N R G T w) (ho : ops[i]? = some o) (hw : Region.wanted o (yielded ops T) = true) (hop : o.op = .makeSlice t x y) (hd : o.dst = some d) (hN : Nat.blt d N = true)
    (E : ET P t e sz bytes z) (hx : evT T x = .int q (c : Int)) (hy : evT T y = .int q' (c : Int)) (hc : c ≤ 1048576) (hz : z.cells = #[z]) (h1 : sz = 1)
    (K : ∀ g T' w', Sx w0 S N ((d, .slice (some ⟨g, 0, none⟩) c c) :: R) (.row (.slice (some ⟨g, 0, none⟩) c c) e sz c (List.replicate c z) :: G) T' w' → At P Φ b cs D (.inRegion ops rest :: k) T' w') :
    At P Φ b cs D (.inRegion ops (i :: rest) :: k) T w := by
  obtain ⟨i0, hi, hz1, hz2, hz3⟩ := E.hi
  have hb : i0.bytes * c ≤ 281474976710656 := by
    rw [hz3]; exact Nat.le_trans (Nat.mul_le_mul E.hb hc) (by decide)
  obtain ⟨w', hr, hown, hg⟩ := run_make_full (P := P) w 0 t e i0 z sz E.ht hi hz1 hz2 q q' c hb (by unfold maxLen; omega) (Nat.zero_le _)
  rw [hz, h1, Nat.mul_one, toList_madeCells_one] at hown
  subst h1
  refine At.op (v := .slice (some ⟨w.heap.size, 0, none⟩) c c) (w' := w') ho hw (by rw [hop]; rfl) ?_ ?_
  · unfold execOp
    rw [hop]
    simp [hx, hy, hr]
  · rw [hd]
    refine K w.heap.size _ w' (Sx.put ?_ d _ (lt_of_blt hN))
    exact H.new (by simpa using Fr.grown hg) _ hown (by simp [Ent.keys, Value.ownBlock]) (by simp [Ent.keys, Value.ownBlock])

/-- a block of cells as a row -/
theorem Sx.toRow (H : Sx w0 S N R G T w) {g n : Nat} {L : List Value} {e : TypeId} {sz : Nat} {G0 : List Ent} (ht : Take (.blk g (Eo (.cells L.toArray e (0, 0)))) G G0) (hl : L.length = n * sz) (hn : n ≤ maxLen) :
    Sx w0 S N R (.row (.slice (some ⟨g, 0, none⟩) n n) e sz n L :: G0) T w := by
  have H' := H.front ht
  have hg := H'.heap (b := g) (o := .cells L.toArray e (0, 0)) (by simp)
  refine ⟨H'.fr, H'.size, H'.reg, ?_, ?_, H'.nd⟩
  · intro x hx
    rcases List.mem_cons.1 hx with rfl | hx
    · exact ⟨hl, .inr ⟨g, n, L.toArray, rfl, Nat.zero_le _, hg, Nat.le_refl _, hn, by simpa using hl, by simp [← hl]⟩⟩
    · exact H'.ent x (by simp [hx])
  · intro x hx
    rcases List.mem_cons.1 hx with rfl | hx
    · exact H'.own (.blk g (Eo (.cells L.toArray e (0, 0)))) (by simp)
    · exact H'.own x (by simp [hx])
end
end Go.Sx
end
section
namespace Go.Sx
open Go.RowKit

/-! ### Regions that draw their order -/
/-- operations that turn no old memory (stores and appends may) -/
def extK (m : List FuncId) (o : Oper) : Bool :=
  match o.op with
  | .call { callee := .value (.func f), .. } => !m.contains f
  | .store .. | .mapUpdate .. | .insert .. | .entryStore .. => false
  | .call { callee := .builtin .append, .. } | .call { callee := .builtin .copy, .. } | .call { callee := .builtin .clear, .. } | .call { callee := .builtin .delete, .. } => false
  | _ => true

/-- what a panic in a region comes to, and which functions turn memory that was there -/
structure KP where
  m : List FuncId
  k : World → List PanicEntry → Prop

def Stp (P : Program) (o : Oper) (K : Array Value → World → Prop) (Kp : KP) (T : Array Value) (w : World) : Prop :=
  noDefer o.op = true ∧
  match (execOp (evT T) o).run P w with
  | .ok (.value v) w' => (extK Kp.m o = true → Fr [] w w') ∧ K (putT T o.dst v) w'
  | .ok .skip w' => (extK Kp.m o = true → Fr [] w w') ∧ K (putT T o.dst undef) w'
  | .ok (.enter f args) w1 => Calls P f args w1 (fun e w' => (∃ v, e = .returned v ∧ (extK Kp.m o = true → Fr [] w w') ∧ K (putT T o.dst v) w') ∨ ∃ ch, e = .panicked ch ∧ Kp.k w' ch)
  | .ok (.round l f tmps assign body) w1 => Rounds P l f tmps assign body w1 (fun e w' => ∃ v, e = .returned v ∧ (extK Kp.m o = true → Fr [] w w') ∧ K (putT T o.dst v) w')
  | _ => False

def StG (P : Program) (ops : Array Oper) (i : Nat) (K : Array Value → World → Prop) (Kp : KP) (T : Array Value) (w : World) : Prop :=
  match ops[i]? with
  | none => K T w
  | some o => if Region.wanted o (yielded ops T) then Stp P o K Kp T w else K (putT T o.dst undef) w

def GA (P : Program) (ops : Array Oper) (Kf : Array Value → World → Prop) (Kp : KP) : Nat → Array Bool → Array Value → World → Prop
  | 0, L, T, w => Region.ready .any ops L = [] ∧ Kf T w
  | n + 1, L, T, w => (Region.ready .any ops L = [] → Kf T w) ∧ ∀ i ∈ Region.ready .any ops L, StG P ops i (GA P ops Kf Kp n (L.setIfInBounds i true)) Kp T w

section
variable {P : Program} {Φ : Machine → Prop} {b : Frame} {cs : List Frame} {D : List Deferred} {k : List Item}
variable {ops : Array Oper} {Kf : Array Value → World → Prop} {Kp : KP}

theorem Rounds.mono {l : Nat} {f : FuncId} {tmps : Array Value} {assign body : Code} {w : World} {R R' : Ending → World → Prop} (h : Rounds P l f tmps assign body w R) (hr : ∀ e w', R e w' → R' e w') : Rounds P l f tmps assign body w R' :=
  fun c cs => let ⟨e, w', r, s⟩ := h c cs; ⟨e, w', hr _ _ r, s⟩

theorem At.ofStp {i : Nat} {rest : List Nat} {o : Oper} {K : Array Value → World → Prop} {T : Array Value} {w : World} (ho : ops[i]? = some o) (hw : Region.wanted o (yielded ops T) = true)
    (h : Stp P o K Kp T w) (hKp : ∀ T w ch, Kp.k w ch → Pan P Φ b cs D T w ch) (hK : ∀ T' w', K T' w' → At P Φ b cs D (.inRegion ops rest :: k) T' w') : At P Φ b cs D (.inRegion ops (i :: rest) :: k) T w := by
  obtain ⟨hn, h⟩ := h
  split at h
  · rename_i v w' hr; exact At.op ho hw hn hr (hK _ _ h.2)
  · rename_i w' hr; exact At.opS ho hw hn hr (hK _ _ h.2)
  · rename_i f args w1 hr
    refine At.call ho hw hn hr h ?_
    rintro e w2 (⟨v, rfl, _, hk⟩ | ⟨ch, rfl, hk⟩)
    · exact hK _ _ hk
    · exact hKp _ _ _ hk
  · rename_i l f tmps assign body w1 hrun
    obtain ⟨e, w2, ⟨v, rfl, _, hk⟩, hs⟩ := h (fr b T D (.inRegion ops (i :: rest) :: k)) cs
    have h1 : step P (lone (fr b T D (.inRegion ops (i :: rest) :: k)) cs w) = .next (lone (Frame.round l f tmps assign body .normal) (fr b T D (.inRegion ops (i :: rest) :: k) :: cs) w1) :=
      step_lone_go (by rw [stepG_op' ho hw hn]; simp [stepG.apply, hrun, fr])
    refine Ev.steps (.head h1 hs) ?_
    rw [finish_fr ho]
    exact hK _ _ hk
  · exact h.elim

theorem At.ofGA (hKp : ∀ T w ch, Kp.k w ch → Pan P Φ b cs D T w ch) (hK : ∀ T w, Kf T w → At P Φ b cs D k T w) : ∀ (n t : Nat) (L : Array Bool) (T : Array Value) (w : World), GA P ops Kf Kp n L T w →
    At P Φ b cs D (.inRegion ops (Region.linearise.go .any ops n t L []) :: k) T w := by
  intro n
  induction n with
  | zero => intro t L T w h; exact At.regionEnd (hK T w h.2)
  | succ n ih =>
    intro t L T w h
    obtain ⟨h₀, h₁⟩ := h
    simp only [Region.linearise.go]
    change At P Φ b cs D (.inRegion ops (match (Region.ready .any ops L)[t % (Region.ready .any ops L).length]? with
      | some i => Region.linearise.go .any ops n (t / (Region.ready .any ops L).length) (L.setIfInBounds i true) [i]
      | none => [].reverse) :: k) T w
    cases hi : (Region.ready .any ops L)[t % (Region.ready .any ops L).length]? with
    | none =>
      have hnil : Region.ready .any ops L = [] := by
        cases hr : Region.ready .any ops L with
        | nil => rfl
        | cons x xs =>
          rw [hr] at hi
          have hlt : t % (x :: xs).length < (x :: xs).length := Nat.mod_lt _ (by simp)
          simp at hi
          simp at hlt
          omega
      exact At.regionEnd (hK T w (h₀ hnil))
    | some i =>
      simp only []
      rw [linearise_go_acc, List.reverse_singleton, List.singleton_append]
      have hs := h₁ i (List.mem_of_getElem? hi)
      obtain ⟨_, o, ho, _⟩ := mem_ready.1 (List.mem_of_getElem? hi)
      unfold StG at hs
      rw [ho] at hs
      simp only at hs
      split at hs
      · rename_i hw; exact At.ofStp ho hw hs hKp (fun T' w' hk => ih _ _ T' w' hk)
      · rename_i hw; exact At.opSkip ho (by simpa using hw) (ih _ _ _ w hs)

theorem At.drawn {id : Nat} {T : Array Value} {w : World} (hm : P.follows .mixedOrders = true) (hKp : ∀ T w ch, Kp.k w ch → Pan P Φ b cs D T w ch) (hK : ∀ T w, Kf T w → At P Φ b cs D k T w)
    (h : GA P ops Kf Kp ops.size (Array.replicate ops.size false) T { w with drawn := w.drawn + 1 }) : At P Φ b cs D (.code (.region id ops true) :: k) T w :=
  At.regionD fun t => by
    simp only [Region.schedule, hm, Bool.true_or, if_true]
    exact At.ofGA hKp hK ops.size t _ T _ h

/-! #### first what only reads -/
theorem execOp_putT (o : Oper) (hs : ∀ cs b, o.op ≠ .select cs b) (T : Array Value) (dst : Option Tmp) (v : Value) (h : ∀ d, dst = some d → d ∉ o.looksAt ops) :
    execOp (evT (putT T dst v)) o = execOp (evT T) o := by
  have h1 := execOp_put (ops := ops) o hs ⟨T, []⟩ dst v h
  have e1 : (Act.eval ⟨T, []⟩) = evT T := by funext x; cases x <;> rfl
  have e2 : (Act.eval ((⟨T, []⟩ : Act).put dst v)) = evT (putT T dst v) := by funext x; cases dst <;> cases x <;> rfl
  rw [← e1, ← e2]; exact h1
theorem wanted_putT (o : Oper) (T : Array Value) (dst : Option Tmp) (v : Value) (h : ∀ d, dst = some d → d ∉ o.looksAt ops) :
    Region.wanted o (yielded ops (putT T dst v)) = Region.wanted o (yielded ops T) := by
  have h1 := wanted_put (ops := ops) o ⟨T, []⟩ dst v h
  cases dst <;> exact h1
theorem putT_comm (T : Array Value) {x y : Option Tmp} (v u : Value) (h : ∀ d, x = some d → y ≠ some d) : putT (putT T x v) y u = putT (putT T y u) x v := by
  cases x with
  | none => rfl
  | some d =>
    cases y with
    | none => rfl
    | some e =>
      have hne : d ≠ e := fun he => h d rfl (he ▸ rfl)
      simp [putT, Array.setIfInBounds_comm _ _ hne]

/-- yields v in this world and in every one that only has new blocks more -/
def Yl (Z : Bool) (P : Program) (ops : Array Oper) (o : Oper) (v : Value) (T : Array Value) (w : World) : Prop :=
  (Region.wanted o (yielded ops T) = true ∧ noDefer o.op = true ∧ ∀ w', (Z = true ∨ Fr [] w w') → (execOp (evT T) o).run P w' = .ok (.value v) w') ∨
  (Region.wanted o (yielded ops T) = false ∧ v = undef)

theorem Yl.step {Z : Bool} {i : Nat} {o : Oper} {v : Value} {T : Array Value} {w : World} {K : Array Value → World → Prop} (hi : ops[i]? = some o) (hy : Yl Z P ops o v T w) (h : K (putT T o.dst v) w) : StG P ops i K Kp T w := by
  unfold StG
  rw [hi]
  rcases hy with ⟨hw, hn, hr⟩ | ⟨hw, rfl⟩
  · simp only [hw, if_true]
    refine ⟨hn, ?_⟩
    rw [hr w (.inr (Fr.refl _ _))]
    exact ⟨fun _ => Fr.refl _ _, h⟩
  · simp only [hw, Bool.false_eq_true, if_false]
    exact h

theorem Yl.put {Z : Bool} {oi oj : Oper} {v u : Value} {T : Array Value} {w w' : World} (hs : ∀ cs b, oi.op ≠ .select cs b) (hy : Yl Z P ops oi v T w) (hf : Z = true ∨ Fr [] w w') (h : ∀ d, oj.dst = some d → d ∉ oi.looksAt ops) : Yl Z P ops oi v (putT T oj.dst u) w' := by
  rcases hy with ⟨hw, hn, hr⟩ | ⟨hw, rfl⟩
  · exact .inl ⟨by rw [wanted_putT oi T _ _ h]; exact hw, hn, fun w2 h2 => by rw [execOp_putT oi hs T _ _ h]; exact hr w2 (by rcases hf with hf | hf; (exact .inl hf); rcases h2 with h2 | h2; (exact .inl h2); exact .inr (hf.trans0 h2))⟩
  · exact .inr ⟨by rw [wanted_putT oi T _ _ h]; exact hw, rfl⟩

theorem StG.put {Z : Bool} {j : Nat} {oi oj : Oper} {v : Value} {T : Array Value} {w : World} {K K' : Array Value → World → Prop} (hj : ops[j]? = some oj) (hap : oi.apart ops oj = true) (hx : Z = true ∨ extK Kp.m oj = true)
    (hsi : ∀ cs b, oi.op ≠ .select cs b) (hsj : ∀ cs b, oj.op ≠ .select cs b) (hy : Yl Z P ops oi v T w)
    (hK : ∀ u w', Yl Z P ops oi v (putT T oj.dst u) w' → K (putT (putT T oj.dst u) oi.dst v) w' → K' (putT T oj.dst u) w')
    (h : StG P ops j K Kp (putT T oi.dst v) w) : StG P ops j K' Kp T w := by
  obtain ⟨h1, h2, h3⟩ := Oper.apart_spec hap
  unfold StG at *
  rw [hj] at h ⊢
  simp only at h ⊢
  rw [wanted_putT oj T _ _ h1] at h
  have hcomm : ∀ u, putT (putT T oi.dst v) oj.dst u = putT (putT T oj.dst u) oi.dst v := fun u => putT_comm T v u h2
  split at h
  · rename_i hw
    simp only [hw, if_true]
    obtain ⟨hn, h⟩ := h
    refine ⟨hn, ?_⟩
    rw [execOp_putT oj hsj T _ _ h1] at h
    split at h
    · rename_i u w' hr; rw [hcomm] at h; exact ⟨h.1, hK _ _ (hy.put hsi (hx.imp id h.1) h3) h.2⟩
    · rename_i w' hr; rw [hcomm] at h; exact ⟨h.1, hK _ _ (hy.put hsi (hx.imp id h.1) h3) h.2⟩
    · rename_i f args w1 hr
      refine h.mono ?_
      rintro e w' (⟨u, rfl, hf, hk⟩ | hp)
      · rw [hcomm] at hk
        exact .inl ⟨u, rfl, hf, hK _ _ (hy.put hsi (hx.imp id hf) h3) hk⟩
      · exact .inr hp
    · rename_i l f tmps assign body w1 hr
      refine Rounds.mono h ?_
      rintro e w' ⟨u, rfl, hf, hk⟩
      rw [hcomm] at hk
      exact ⟨u, rfl, hf, hK _ _ (hy.put hsi (hx.imp id hf) h3) hk⟩
    · exact h.elim
  · rename_i hw
    simp only [hw]
    rw [hcomm] at h
    exact hK _ _ (hy.put hsi (.inr (Fr.refl _ _)) h3) h

theorem GA.first {Z : Bool} {i : Nat} {oi : Oper} {v : Value} (B : List Nat) (hi : ops[i]? = some oi) (hsel : ∀ (j : Nat) (o : Oper) cs b, ops[j]? = some o → o.op ≠ .select cs b)
    (hB : ∀ j ∈ B, j ≠ i ∧ ∃ oj, ops[j]? = some oj ∧ ∃ e ∈ oj.after, Region.binds .any e = true ∧ (e.on = i ∨ e.on ∈ B)) :
    ∀ (n : Nat) (L : Array Bool) (T : Array Value) (w : World),
      (∀ j ∈ B, L.getD j true = false) →
      (∀ j oj, ops[j]? = some oj → j ≠ i → L.getD j true = false → j ∉ B → oi.apart ops oj = true ∧ (Z = true ∨ extK Kp.m oj = true)) →
      i ∈ Region.ready .any ops L → Yl Z P ops oi v T w →
      GA P ops Kf Kp n (L.setIfInBounds i true) (putT T oi.dst v) w → GA P ops Kf Kp (n + 1) L T w := by
  intro n
  induction n with
  | zero =>
    intro L T w _ _ hr hy H
    refine ⟨fun h => (by rw [h] at hr; cases hr), fun j hj => ?_⟩
    by_cases hji : j = i
    · subst hji; exact hy.step hi H
    · have := ready_mono hj hji
      rw [H.1] at this
      cases this
  | succ n ih =>
    intro L T w hun0 hfree hr hy H
    refine ⟨fun h => (by rw [h] at hr; cases hr), fun j hj => ?_⟩
    by_cases hji : j = i
    · subst hji; exact hy.step hi H
    · have h1 := H.2 j (ready_mono hj hji)
      obtain ⟨hjun, oj, hoj, hall⟩ := mem_ready.1 hj
      have hundone : ∀ m, L.getD m true = false → ∀ e ∈ oj.after, Region.binds .any e = true → e.on ≠ m := fun m h0 e he hb heq => by
        have h1 := hall e he hb
        rw [heq] at h1
        rcases Nat.lt_or_ge m L.size with h' | h'
        · simp [h'] at h0 h1; rw [h0] at h1; cases h1
        · simp [Array.getElem?_eq_none h'] at h1
      have hjB : j ∉ B := fun hm => by
        obtain ⟨_, oj', hoj', e, he, hb, hon⟩ := hB j hm
        rw [hoj] at hoj'
        obtain rfl : oj = oj' := by simpa using hoj'
        rcases hon with hon | hon
        · exact hundone i (mem_ready.1 hr).1 e he hb hon
        · exact hundone e.on (hun0 _ hon) e he hb rfl
      obtain ⟨hap, hx⟩ := hfree j oj hoj hji hjun hjB
      have hun0' : ∀ k ∈ B, (L.setIfInBounds j true).getD k true = false := fun k hk => by
        have hjk : ¬ j = k := fun e => hjB (by rw [e]; exact hk)
        rw [getD_set_ne true hjk]; exact hun0 k hk
      have hfree' : ∀ k ok, ops[k]? = some ok → k ≠ i → (L.setIfInBounds j true).getD k true = false →
          k ∉ B → oi.apart ops ok = true ∧ (Z = true ∨ extK Kp.m ok = true) := fun k ok hk hki hun hno => by
        refine hfree k ok hk hki ?_ hno
        by_cases hjk : j = k
        · subst hjk; exact hjun
        · rw [getD_set_ne true hjk] at hun; exact hun
      refine StG.put hoj hap hx (fun cs b => hsel i oi cs b hi) (fun cs b => hsel j oj cs b hoj) hy ?_ h1
      intro u w' hy' h3
      refine ih (L.setIfInBounds j true) _ w' hun0' hfree' (ready_mono hr (Ne.symm hji)) hy' ?_
      rw [Array.setIfInBounds_comm _ _ hji]
      exact h3

/-- what must wait for an operation -/
def waitsFor (ops : Array Oper) (i : Nat) : List Nat :=
  (List.range ops.size).foldl (fun acc j => match ops[j]? with
    | some oj => if oj.after.any (fun e => Region.binds .any e && (e.on == i || acc.contains e.on)) then j :: acc else acc
    | none => acc) []

def freeX (Z : Bool) (m : List FuncId) (ops : Array Oper) (L : Array Bool) (i : Nat) : Bool :=
  (Region.ready .any ops L).contains i && Region.noSelect ops && (waitsFor ops i).all (fun j => !(j == i) && !(L.getD j true) && match ops[j]? with
    | some oj => oj.after.any (fun e => Region.binds .any e && (e.on == i || (waitsFor ops i).contains e.on))
    | none => false) && match ops[i]? with
  | none => false
  | some oi => (List.range ops.size).all fun j => j == i || L.getD j true || (waitsFor ops i).contains j || match ops[j]? with
      | some oj => oi.apart ops oj && (Z || extK m oj)
      | none => true

theorem GA.take {Z : Bool} {i : Nat} {oi : Oper} {v : Value} {n : Nat} {L L' : Array Bool} {T : Array Value} {w : World} (hi : ops[i]? = some oi) (hf : freeX Z Kp.m ops L i = true) (hL : L.setIfInBounds i true = L')
    (hy : Yl Z P ops oi v T w) (h : GA P ops Kf Kp n L' (putT T oi.dst v) w) : GA P ops Kf Kp (n + 1) L T w := by
  subst hL
  simp only [freeX, hi, Bool.and_eq_true, List.all_eq_true, List.mem_range] at hf
  obtain ⟨⟨⟨hr, hs⟩, hB⟩, hf⟩ := hf
  generalize waitsFor ops i = B at *
  refine GA.first B hi (Region.noSelect_spec hs) ?_ n L T w ?_ ?_ (by simpa using hr) hy h
  · intro j hj
    have h1 := hB j hj
    cases hoj : ops[j]? with
    | none => simp [hoj] at h1
    | some oj =>
      simp only [hoj, Bool.not_eq_true'] at h1
      refine ⟨by have := h1.1.1; simpa using this, oj, rfl, ?_⟩
      obtain ⟨e, he, hb⟩ := Array.any_eq_true'.1 h1.2
      simp only [Bool.and_eq_true, Bool.or_eq_true, beq_iff_eq, List.contains_iff_mem] at hb
      exact ⟨e, he, hb.1, hb.2⟩
  · intro j hj
    have h1 := hB j hj
    have := h1.1.2
    simpa using this
  · intro j oj hj hne hun hno
    have h1 := hf j (Array.getElem?_eq_some_iff.1 hj).1
    simp only [hj, Bool.or_eq_true, beq_iff_eq, hne, false_or, hun, Bool.false_eq_true, List.contains_iff_mem, hno] at h1
    simpa using h1

theorem GA.only {i : Nat} {o : Oper} {n : Nat} {L L' : Array Bool} {T : Array Value} {w : World} (ho : ops[i]? = some o) (hr : Region.ready .any ops L = [i]) (hL : L.setIfInBounds i true = L') (hw : Region.wanted o (yielded ops T) = true)
    (h : Stp P o (GA P ops Kf Kp n L') Kp T w) : GA P ops Kf Kp (n + 1) L T w := by
  subst hL
  refine ⟨fun h0 => (by rw [hr] at h0; cases h0), fun j hj => ?_⟩
  rw [hr] at hj
  obtain rfl : j = i := by simpa using hj
  unfold StG
  rw [ho]
  simp only [hw, if_true]
  exact h
theorem GA.done {n : Nat} {L : Array Bool} {T : Array Value} {w : World} (hr : Region.ready .any ops L = []) (h : Kf T w) : GA P ops Kf Kp n L T w := by
  cases n with
  | zero => exact ⟨hr, h⟩
  | succ n => exact ⟨fun _ => h, by rw [hr]; simp⟩

/-! #### the same, with what is known -/
variable {T : Array Value} {w : World} {w0 : World} {S : List Nat} {N : Nat} {R : List (Nat × Value)} {G : List Ent}
variable {i n : Nat} {o : Oper} {L L' : Array Bool}

theorem At.drawnH {id : Nat} (H : Sx w0 S N R G T w) {m : Nat} {L : Array Bool} (hm : P.follows .mixedOrders = true) (hs : ops.size = m) (hL : Array.replicate ops.size false = L) (J : Array Value → World → Prop)
    (h : ∀ w, Sx w0 S N R G T w → GA P ops J ⟨[], fun w ch => ∀ T, Pan P Φ b cs D T w ch⟩ m L T w) (hK : ∀ T w, J T w → At P Φ b cs D k T w) : At P Φ b cs D (.code (.region id ops true) :: k) T w := by
  refine At.drawn (Kp := ⟨[], fun w ch => ∀ T, Pan P Φ b cs D T w ch⟩) hm (fun T w ch h => h T) hK ?_
  rw [hL, hs]
  exact h _ (H.world (Fr.drawn w _))

theorem GA.v {v : Value} {d : Tmp} (H : Sx w0 S N R G T w) (ho : ops[i]? = some o) (hw : Region.wanted o (yielded ops T) = true) (hn : noDefer o.op = true) (hd : o.dst = some d) (hN : Nat.blt d N = true)
    (hf : freeX false Kp.m ops L i = true) (hL : L.setIfInBounds i true = L')
    (hr : ∀ w', Sx w0 S N R G T w' → (execOp (evT T) o).run P w' = .ok (.value v) w') (K : ∀ T', Sx w0 S N ((d, v) :: R) G T' w → GA P ops Kf Kp n L' T' w) : GA P ops Kf Kp (n + 1) L T w := by
  refine GA.take ho hf hL (.inl ⟨hw, hn, fun w' h' => hr w' (H.world (h'.resolve_left (by simp)))⟩) ?_
  rw [hd]
  exact K _ (H.put d v (lt_of_blt hN))
theorem GA.u {d : Tmp} (H : Sx w0 S N R G T w) (ho : ops[i]? = some o) (hw : Region.wanted o (yielded ops T) = false) (hd : o.dst = some d) (hN : Nat.blt d N = true)
    (hf : freeX false Kp.m ops L i = true) (hL : L.setIfInBounds i true = L') (K : ∀ T', Sx w0 S N ((d, undef) :: R) G T' w → GA P ops Kf Kp n L' T' w) : GA P ops Kf Kp (n + 1) L T w := by
  refine GA.take ho hf hL (.inr ⟨hw, rfl⟩) ?_
  rw [hd]
  exact K _ (H.put d undef (lt_of_blt hN))
theorem GA.c {p : Prop} [Decidable p] {d : Tmp} (H : Sx w0 S N R G T w) (ho : ops[i]? = some o) (hw : Region.wanted o (yielded ops T) = true) (hn : noDefer o.op = true) (hd : o.dst = some d) (hN : Nat.blt d N = true)
    (hf : freeX false Kp.m ops L i = true) (hL : L.setIfInBounds i true = L')
    (hr : ∀ w', Sx w0 S N R G T w' → (execOp (evT T) o).run P w' = .ok (.value (.bool (decide p))) w')
    (Kt : p → ∀ T', Sx w0 S N ((d, .bool true) :: R) G T' w → GA P ops Kf Kp n L' T' w)
    (Kf' : ¬ p → ∀ T', Sx w0 S N ((d, .bool false) :: R) G T' w → GA P ops Kf Kp n L' T' w) : GA P ops Kf Kp (n + 1) L T w := by
  by_cases h : p
  · exact GA.v H ho hw hn hd hN hf hL (fun w' H' => by rw [hr w' H', decide_eq_true h]) (Kt h)
  · exact GA.v H ho hw hn hd hN hf hL (fun w' H' => by rw [hr w' H', decide_eq_false h]) (Kf' h)

/-- a new block of cells -/
theorem GA.new {d : Tmp} {cells : List Value} {t : TypeId} (H : Sx w0 S N R G T w) (ho : ops[i]? = some o) (hw : Region.wanted o (yielded ops T) = true) (hn : noDefer o.op = true) (hd : o.dst = some d) (hN : Nat.blt d N = true)
    (hq : Region.ready .any ops L = [i]) (hL : L.setIfInBounds i true = L')
    {f : Nat → Value} (hr : (execOp (evT T) o).run P w = .ok (.value (f w.heap.size)) (w.alloc (.cells cells.toArray t)))
    (K : ∀ m T' w', Sx w0 S N ((d, f m) :: R) (.blk m (Eo (.cells cells.toArray t (0, 0))) :: G) T' w' → GA P ops Kf Kp n L' T' w') : GA P ops Kf Kp (n + 1) L T w := by
  refine GA.only ho hq hL hw ⟨hn, ?_⟩
  rw [hr]
  refine ⟨fun _ => Fr.alloc _ _, ?_⟩
  rw [hd]
  refine K w.heap.size _ _ (Sx.put ?_ d _ (lt_of_blt hN))
  exact H.new (Fr.alloc _ _) _ ⟨_, heap_alloc_new w _, rfl⟩ (by simp [Ent.keys]) (by simp [Ent.keys])

theorem GA.f0 {f : FuncId} {xs : Array Operand} {ts : Array TypeId} {args : Array Value} {Q : Value → World → Prop} {d : Tmp} (H : Sx w0 S N R G T w) (ho : ops[i]? = some o) (hw : Region.wanted o (yielded ops T) = true)
    (hop : o.op = .call { callee := .value (.func f), args := xs, argTypes := ts }) (hd : o.dst = some d) (hN : Nat.blt d N = true) (hq : Region.ready .any ops L = [i]) (hL : L.setIfInBounds i true = L')
    (ha : xs.map (evT T) = args) (hf : ∀ (args : Array Value) w, (callFunc f args).run P w = .ok (.enter f args) w)
    (hc : Calls P f args w (Ret w Q)) (K : ∀ v T' w', Q v w' → Fr [] w w' → Sx w0 S N ((d, v) :: R) G T' w' → GA P ops Kf Kp n L' T' w') : GA P ops Kf Kp (n + 1) L T w := by
  have hr : (execOp (evT T) o).run P w = .ok (.enter f args) w := by
    subst ha
    unfold execOp
    rw [hop]
    simp [resolve, evT, Deferred.ofValue, invoke, hf]
  refine GA.only ho hq hL hw ⟨by rw [hop]; rfl, ?_⟩
  rw [hr]
  refine hc.mono ?_
  rintro e w2 ⟨v, rfl, hfr, hQ⟩
  refine .inl ⟨v, rfl, fun _ => hfr, ?_⟩
  rw [hd]
  exact K v _ w2 hQ hfr ((H.world hfr).put d v (lt_of_blt hN))

theorem GA.fG {f : FuncId} {xs : Array Operand} {ts : Array TypeId} {args : Array Value} {Q : Value → List Ent → World → Prop} {d : Tmp} (H : Sx w0 S N R G T w) (ho : ops[i]? = some o) (hw : Region.wanted o (yielded ops T) = true)
    (hop : o.op = .call { callee := .value (.func f), args := xs, argTypes := ts }) (hd : o.dst = some d) (hN : Nat.blt d N = true) (hq : Region.ready .any ops L = [i]) (hL : L.setIfInBounds i true = L')
    (ha : xs.map (evT T) = args) (hf : ∀ (args : Array Value) w, (callFunc f args).run P w = .ok (.enter f args) w)
    (hc : Calls P f args w (RetG w Q)) (K : ∀ v E T' w', Q v E w' → Fr [] w w' → Sx w0 S N ((d, v) :: R) (E ++ G) T' w' → GA P ops Kf Kp n L' T' w') : GA P ops Kf Kp (n + 1) L T w := by
  have hr : (execOp (evT T) o).run P w = .ok (.enter f args) w := by
    subst ha
    unfold execOp
    rw [hop]
    simp [resolve, evT, Deferred.ofValue, invoke, hf]
  refine GA.only ho hq hL hw ⟨by rw [hop]; rfl, ?_⟩
  rw [hr]
  refine hc.mono ?_
  rintro e w2 ⟨v, E, rfl, hfr, h1, h2, h3, hQ⟩
  refine .inl ⟨v, rfl, fun _ => hfr, ?_⟩
  rw [hd]
  exact K v E _ w2 hQ hfr ((H.adds hfr E h1 h2 h3).put d v (lt_of_blt hN))

/-- a call that panics -/
theorem GA.fP {f : FuncId} {xs : Array Operand} {ts : Array TypeId} {args : Array Value} {v : Value} (H : Sx w0 S N R G T w) (ho : ops[i]? = some o) (hw : Region.wanted o (yielded ops T) = true)
    (hop : o.op = .call { callee := .value (.func f), args := xs, argTypes := ts }) (hq : Region.ready .any ops L = [i]) (hL : L.setIfInBounds i true = L')
    (ha : xs.map (evT T) = args) (hf : ∀ (args : Array Value) w, (callFunc f args).run P w = .ok (.enter f args) w)
    (hc : Calls P f args w (Pans w v)) (K : ∀ w', Fr [] w w' → Sx w0 S N R G T w' → Kp.k w' [{ v, recovered := false }]) : GA P ops Kf Kp (n + 1) L T w := by
  have hr : (execOp (evT T) o).run P w = .ok (.enter f args) w := by
    subst ha
    unfold execOp
    rw [hop]
    simp [resolve, evT, Deferred.ofValue, invoke, hf]
  refine GA.only ho hq hL hw ⟨by rw [hop]; rfl, ?_⟩
  rw [hr]
  refine hc.mono ?_
  rintro e w2 ⟨rfl, hfr⟩
  exact .inr ⟨_, rfl, K w2 hfr (H.world hfr)⟩

/-- a call of a function value -/
theorem GA.fV {x : Operand} {xs : Array Operand} {ts : Array TypeId} {fv : Value} {args : Array Value} {Q : Value → World → Prop} {d : Tmp} (H : Sx w0 S N R G T w) (ho : ops[i]? = some o) (hw : Region.wanted o (yielded ops T) = true)
    (hop : o.op = .call { callee := .value x, args := xs, argTypes := ts }) (hd : o.dst = some d) (hN : Nat.blt d N = true) (hq : Region.ready .any ops L = [i]) (hL : L.setIfInBounds i true = L')
    (hx : evT T x = fv) (ha : xs.map (evT T) = args)
    (hc : CallsV P fv args w (Ret w Q)) (K : ∀ v T' w', Q v w' → Fr [] w w' → Sx w0 S N ((d, v) :: R) G T' w' → GA P ops Kf Kp n L' T' w') : GA P ops Kf Kp (n + 1) L T w := by
  have hr : (execOp (evT T) o).run P w = (Sx.callV fv args).run P w := by
    subst hx ha
    unfold execOp
    rw [hop]
    rfl
  refine GA.only ho hq hL hw ⟨by rw [hop]; rfl, ?_⟩
  rw [hr]
  unfold CallsV at hc
  have key : ∀ v w2, Fr [] w w2 → Q v w2 → GA P ops Kf Kp n L' (putT T o.dst v) w2 := fun v w2 hfr hQ => by
    rw [hd]; exact K v _ w2 hQ hfr ((H.world hfr).put d v (lt_of_blt hN))
  split at hc
  · rename_i g a w1 hrun
    rw [hrun]
    refine Calls.mono hc ?_
    rintro e w2 ⟨v, rfl, hfr, hQ⟩
    exact .inl ⟨v, rfl, fun _ => hfr, key v w2 hfr hQ⟩
  · rename_i l g tmps assign body w1 hrun
    rw [hrun]
    refine Rounds.mono hc ?_
    rintro e w2 ⟨v, rfl, hfr, hQ⟩
    exact ⟨v, rfl, fun _ => hfr, key v w2 hfr hQ⟩
  · exact hc.elim

/-- a store of one cell into a block of the call's own -/
theorem GA.store1 {x y : Operand} {t ty : TypeId} {g off : Nat} {v : Value} {C C' : List Value} {G' : List Ent} (H : Sx w0 S N R G T w) (ho : ops[i]? = some o) (hw : Region.wanted o (yielded ops T) = true)
    (hop : o.op = .store t x y) (hd : o.dst = none) (hq : Region.ready .any ops L = [i]) (hL : L.setIfInBounds i true = L')
    (hx : evT T x = .pointer (some ⟨g, off, none⟩)) (hy : evT T y = v) (hs : ∀ w, (sizeOf t).run P w = .ok 1 w) (hv : v.cells = #[v]) (h1 : v.oneCell' = true)
    (hu : Upd (.blk g (Eo (.cells C'.toArray ty (0, 0)))) (.blk g (Eo (.cells C.toArray ty (0, 0)))) G G') (hC : off < C.length) (hC' : C.set off v = C')
    (K : ∀ T' w', Sx w0 S N R G' T' w' → GA P ops Kf Kp n L' T' w') : GA P ops Kf Kp (n + 1) L T w := by
  have hg := H.heap hu.mem
  have hr := run_store_cells (P := P) (w := w) (t := t) hg hs (v := v) (l := [v]) (by rw [hv]) rfl (by simp [h1]) (off := off) (by simp only [List.length_singleton]; omega) (L' := C') (by
    rw [← hC', List.set_eq_take_append_cons_drop, if_pos hC]; simp)
  refine GA.only ho hq hL hw ⟨by rw [hop]; rfl, ?_⟩
  have hrun : (execOp (evT T) o).run P w = .ok .skip (w.setRow g C'.toArray) := by
    unfold execOp
    rw [hop]
    simp only [hx, hy, Sem.run_bind, hr, Result.andThen_ok]
    rfl
  rw [hrun]
  refine ⟨fun h => by simp [extK, hop] at h, ?_⟩
  rw [hd]
  exact K _ _ (H.upd hu (Fr.setRow _ _ _) ⟨_, setRow_heap w g _ _ ty _ hg, rfl⟩ (by simp [Ent.keys, Ent.w]) (by simp [Ent.keys]))

/-- an operation that reads no memory -/
theorem GA.p {v : Value} {d : Tmp} (H : Sx w0 S N R G T w) (ho : ops[i]? = some o) (hw : Region.wanted o (yielded ops T) = true) (hn : noDefer o.op = true) (hd : o.dst = some d) (hN : Nat.blt d N = true)
    (hf : freeX true Kp.m ops L i = true) (hL : L.setIfInBounds i true = L')
    (hr : ∀ w', (execOp (evT T) o).run P w' = .ok (.value v) w') (K : ∀ T', Sx w0 S N ((d, v) :: R) G T' w → GA P ops Kf Kp n L' T' w) : GA P ops Kf Kp (n + 1) L T w := by
  refine GA.take ho hf hL (.inl ⟨hw, hn, fun w' _ => hr w'⟩) ?_
  rw [hd]
  exact K _ (H.put d v (lt_of_blt hN))
theorem At.drawnM (M : List FuncId) {id : Nat} (H : Sx w0 S N R G T w) {m : Nat} {L : Array Bool} (hm : P.follows .mixedOrders = true) (hs : ops.size = m) (hL : Array.replicate m false = L)
    (h : ∀ w, Sx w0 S N R G T w → GA P ops (At P Φ b cs D k) ⟨M, fun w ch => ∀ T, Pan P Φ b cs D T w ch⟩ m L T w) : At P Φ b cs D (.code (.region id ops true) :: k) T w := by
  refine At.drawn (Kp := ⟨M, fun w ch => ∀ T, Pan P Φ b cs D T w ch⟩) hm (fun T w ch h => h T) (fun _ _ h => h) ?_
  rw [hs, hL]
  exact h _ (H.world (Fr.drawn w _))
end
end Go.Sx
end
section
namespace Go.Sx
open Go.RowKit

/-- the registers alone, in another world -/
theorem Sx.rebase {w0 w : World} {S : List Nat} {N : Nat} {R : List (Nat × Value)} {G : List Ent} {T : Array Value} (H : Sx w0 S N R G T w) (w' : World) : Sx w' [] N R [] T w' :=
  ⟨Fr.refl _ _, H.size, H.reg, by simp, by simp, by simp⟩
theorem RetG.of {w0 w : World} {N : Nat} {R : List (Nat × Value)} {G : List Ent} {T : Array Value} {Q : Value → List Ent → World → Prop} {v : Value} (H : Sx w0 [] N R G T w) (E : List Ent) (hs : E.Sublist G) (hw : ∀ x ∈ E, x.w = x.keys) (hQ : Q v E w) : RetG w0 Q (.returned v) w := by
  have H' := H.sublist hs
  refine ⟨v, E, rfl, H.fr, H'.ent, fun x hx k hk => ?_, H'.nd, hQ⟩
  rcases H'.own x hx k (by rw [hw x hx]; exact hk) with h | h
  · exact h
  · cases h

section
variable {P : Program} {w : World} {ρ : Operand → Value} {d : Option Tmp} {ty : TypeId} {pos : String} {af : Array Edge} {g : Option (Nat × Bool)}

theorem run_bound {q : IntKind} {n : Int} {y : Nat} {c : BoundsCode} (h0 : 0 ≤ n) (h1 : n ≤ y) : (Instr.sliceBound (.int q n) y c).run P w = .ok n.toNat w := by
  simp [Instr.sliceBound, asIntOf, h0, h1]

/-- 'a[l:h]' of an array that lies in memory -/
theorem x_slArr {t e : TypeId} {x y z : Operand} {bk off len sz : Nat} {q q' : IntKind} {l h : Int} (hx : ρ x = .pointer (some ⟨bk, off, none⟩)) (hy : ρ y = .int q l) (hz : ρ z = .int q' h) (hu : ∀ w, (underlying t).run P w = .ok (.array len e) w)
    (hs : ∀ w, (sizeOf e).run P w = .ok sz w) (h0 : 0 ≤ l) (h1 : l ≤ h) (h2 : h ≤ len) (h3 : l < len) :
    (execOp ρ ⟨d, .slice t x (some y) (some z) none, ty, pos, af, g⟩).run P w = .ok (.value (.slice (some ⟨bk, off + l.toNat * sz, none⟩) (h.toNat - l.toNat) (len - l.toNat))) w := by
  have hb1 : (Instr.sliceBound (.int q' h) len .sliceAlen).run P w = .ok h.toNat w := run_bound (by omega) h2
  have hb2 : (Instr.sliceBound (.int q l) h.toNat .sliceB).run P w = .ok l.toNat w := run_bound h0 (by omega)
  have hne : ¬ len = l.toNat := by omega
  simp [execOp, hx, hy, hz, Instr.sliceAt, hu, Instr.sureAddr, Instr.sliceBounds, hb1, hb2, hs, hne, add_plain']

/-- 's[l:h]' of a slice -/
theorem x_slS {t e : TypeId} {x : Operand} {lo hi : Option Operand} {A : Option Addr} {n cap sz : Nat} {l h : Nat} (hx : ρ x = .slice A n cap) (hl : (lo.map ρ).getD (.int .i64 0) = .int .i64 (l : Int)) (hh : (hi.map ρ).getD (.int .i64 (n : Int)) = .int .i64 (h : Int))
    (hu : ∀ w, (underlying t).run P w = .ok (.slice e) w) (hs : ∀ w, (sizeOf e).run P w = .ok sz w) (h1 : l ≤ h) (h2 : h ≤ cap) :
    (execOp ρ ⟨d, .slice t x lo hi none, ty, pos, af, g⟩).run P w = .ok (.value (.slice (if cap = l then A else A.map (·.add (l * sz))) (h - l) (cap - l))) w := by
  have hb1 : (Instr.sliceBound (.int .i64 (h : Int)) cap .sliceAcap).run P w = .ok h w := by have := run_bound (P := P) (w := w) (q := .i64) (n := (h : Int)) (y := cap) (c := .sliceAcap) (by omega) (by omega); simpa using this
  have hb2 : (Instr.sliceBound (.int .i64 (l : Int)) h .sliceB).run P w = .ok l w := by have := run_bound (P := P) (w := w) (q := .i64) (n := (l : Int)) (y := h) (c := .sliceB) (by omega) (by omega); simpa using this
  cases lo with
  | none =>
    simp only [Option.map_none, Option.getD_none, Value.int.injEq, true_and] at hl
    obtain rfl : l = 0 := by omega
    cases hi with
    | none =>
      simp only [Option.map_none, Option.getD_none, Value.int.injEq, true_and] at hh
      obtain rfl : n = h := by omega
      simp [execOp, hx, Instr.sliceAt, Instr.slice, hu, Instr.sliceBounds, hs]
    | some z =>
      simp only [Option.map_some, Option.getD_some] at hh
      simp [execOp, hx, hh, Instr.sliceAt, Instr.slice, hu, Instr.sliceBounds, hs, hb1]
  | some y =>
    simp only [Option.map_some, Option.getD_some] at hl
    cases hi with
    | none =>
      simp only [Option.map_none, Option.getD_none, Value.int.injEq, true_and] at hh
      obtain rfl : n = h := by omega
      simp [execOp, hx, hl, Instr.sliceAt, Instr.slice, hu, Instr.sliceBounds, hs, hb2]
    | some z =>
      simp only [Option.map_some, Option.getD_some] at hh
      simp [execOp, hx, hl, hh, Instr.sliceAt, Instr.slice, hu, Instr.sliceBounds, hs, hb1, hb2]

theorem x_ixAN {t e : TypeId} {x y : Operand} {bk off len sz : Nat} {q : IntKind} {n : Nat} (hx : ρ x = .pointer (some ⟨bk, off, none⟩)) (hy : ρ y = .int q (n : Int)) (hu : ∀ w, (underlying t).run P w = .ok (.array len e) w)
    (hs : ∀ w, (sizeOf e).run P w = .ok sz w) (h1 : n < len) : (execOp ρ ⟨d, .indexAddr t x y, ty, pos, af, g⟩).run P w = .ok (.value (.pointer (some ⟨bk, off + n * sz, none⟩))) w := by
  have := x_ixA (P := P) (w := w) (d := d) (ty := ty) (pos := pos) (af := af) (g := g) hx hy hu hs (Int.natCast_nonneg n) (by omega)
  simpa using this
theorem x_ixSN {t e : TypeId} {x y : Operand} {bk off len cap sz : Nat} {q : IntKind} {n : Nat} (hx : ρ x = .slice (some ⟨bk, off, none⟩) len cap) (hy : ρ y = .int q (n : Int)) (hu : ∀ w, (underlying t).run P w = .ok (.slice e) w)
    (hs : ∀ w, (sizeOf e).run P w = .ok sz w) (h1 : n < len) : (execOp ρ ⟨d, .indexAddr t x y, ty, pos, af, g⟩).run P w = .ok (.value (.pointer (some ⟨bk, off + n * sz, none⟩))) w := by
  have := x_ixS (P := P) (w := w) (d := d) (ty := ty) (pos := pos) (af := af) (g := g) hx hy hu hs (Int.natCast_nonneg n) (by omega)
  simpa using this
theorem x_nilF {x : Operand} {f : FuncId} {us vs : Array Value} (hx : ρ x = .func (.func f) us vs) : (execOp ρ ⟨d, .nilCheck x, ty, pos, af, g⟩).run P w = .ok (.value (.func (.func f) us vs)) w := by
  simp [execOp, hx]
end

section
variable {P : Program} {Φ : Machine → Prop} {b : Frame} {cs : List Frame} {D : List Deferred} {k : List Item} {T : Array Value} {w : World}
variable {w0 : World} {S : List Nat} {N : Nat} {R : List (Nat × Value)} {G : List Ent}
variable {ops : Array Oper} {i : Nat} {rest : List Nat} {o : Oper}

/-- a call of a function value by a contract -/
theorem At.fV {x : Operand} {xs : Array Operand} {ts : Array TypeId} {fv : Value} {args : Array Value} {Q : Value → World → Prop} {d : Tmp} (H : Sx w0 S N R G T w) (ho : ops[i]? = some o) (hw : Region.wanted o (yielded ops T) = true)
    (hop : o.op = .call { callee := .value x, args := xs, argTypes := ts }) (hd : o.dst = some d) (hN : Nat.blt d N = true)
    (hx : evT T x = fv) (ha : xs.map (evT T) = args) (hc : CallsV P fv args w (Ret w Q))
    (K : ∀ v T' w', Q v w' → Fr [] w w' → Sx w0 S N ((d, v) :: R) G T' w' → At P Φ b cs D (.inRegion ops rest :: k) T' w') :
    At P Φ b cs D (.inRegion ops (i :: rest) :: k) T w := by
  refine At.callV ho hw hop hx ha hc ?_
  rintro e w2 ⟨v, rfl, hfr, hQ⟩
  show At _ _ _ _ _ _ _ _
  rw [hd]
  exact K v _ w2 hQ hfr ((H.world hfr).put d v (lt_of_blt hN))

/-- a call of a function value, whatever it comes to -/
theorem At.fVr {x : Operand} {xs : Array Operand} {ts : Array TypeId} {fv : Value} {args : Array Value} {Rr : Ending → World → Prop} (ho : ops[i]? = some o) (hw : Region.wanted o (yielded ops T) = true)
    (hop : o.op = .call { callee := .value x, args := xs, argTypes := ts })
    (hx : evT T x = fv) (ha : xs.map (evT T) = args) (hc : CallsV P fv args w Rr)
    (h : ∀ e w2, Rr e w2 → Res P Φ b cs D (.inRegion ops rest :: k) T o.dst e w2) : At P Φ b cs D (.inRegion ops (i :: rest) :: k) T w :=
  At.callV ho hw hop hx ha hc h

/-- a call through an interface -/
theorem At.inv {x : Operand} {nm : String} {xs : Array Operand} {ts : Array TypeId} {t : TypeId} {v rc : Value} {f : FuncId} {args : Array Value} {Q : Value → World → Prop} {d : Tmp} (H : Sx w0 S N R G T w) (ho : ops[i]? = some o) (hw : Region.wanted o (yielded ops T) = true)
    (hop : o.op = .call { callee := .invoke x nm, args := xs, argTypes := ts }) (hd : o.dst = some d) (hN : Nat.blt d N = true)
    (hx : evT T x = .iface t v) (ha : xs.map (evT T) = args) (hm : (method (P.types.size + Made.depth) t v nm).run P w = .ok (f, rc) w)
    (hf : ∀ (args : Array Value) w, (callFunc f args).run P w = .ok (.enter f args) w) (hc : Calls P f (#[rc] ++ args) w (Ret w Q))
    (K : ∀ v T' w', Q v w' → Fr [] w w' → Sx w0 S N ((d, v) :: R) G T' w' → At P Φ b cs D (.inRegion ops rest :: k) T' w') :
    At P Φ b cs D (.inRegion ops (i :: rest) :: k) T w := by
  have hr : (execOp (evT T) o).run P w = .ok (.enter f (#[rc] ++ args)) w := by
    subst ha
    unfold execOp
    rw [hop]
    have he : (#[Value.iface t v] ++ xs.map (evT T)).extract 1 (#[Value.iface t v] ++ xs.map (evT T)).size = xs.map (evT T) := by
      apply Array.ext'
      simp [List.take_of_length_le]
    have h0 : (#[Value.iface t v] ++ xs.map (evT T))[0]? = some (.iface t v) := by rw [Array.getElem?_append_left (by simp)]; rfl
    have e2 : (callMethod (.iface t v) nm (xs.map (evT T))).run P w = .ok (.enter f (#[rc] ++ xs.map (evT T))) w := by
      show Sem.run P (do let p ← program; let (f, receiver) ← method (p.types.size + Made.depth) t v nm; callFunc f (#[receiver] ++ xs.map (evT T))) w = _
      rw [Sem.run_bind, run_program]
      show Sem.run P (do let (f, receiver) ← method (P.types.size + Made.depth) t v nm; callFunc f (#[receiver] ++ xs.map (evT T))) w = _
      rw [Sem.run_bind, hm]
      exact hf _ _
    simp only [resolve, hx, Sem.run_bind, Sem.run_pure, Result.andThen_ok, invoke, h0, he]
    exact e2
  refine At.call (f := f) (args := #[rc] ++ args) (w1 := w) ho hw (by rw [hop]; rfl) hr hc ?_
  rintro e w2 ⟨u, rfl, hfr, hQ⟩
  show At _ _ _ _ _ _ _ _
  rw [hd]
  exact K u _ w2 hQ hfr ((H.world hfr).put d u (lt_of_blt hN))

/-- a region that draws, what follows walked on in it -/
theorem At.drawnC {id : Nat} (H : Sx w0 S N R G T w) {m : Nat} {L : Array Bool} (hm : P.follows .mixedOrders = true) (hs : ops.size = m) (hL : Array.replicate m false = L)
    (h : ∀ w, Sx w0 S N R G T w → GA P ops (At P Φ b cs D k) ⟨[], fun w ch => ∀ T, Pan P Φ b cs D T w ch⟩ m L T w) : At P Φ b cs D (.code (.region id ops true) :: k) T w :=
  At.drawnH H hm hs (by rw [hs]; exact hL) (At P Φ b cs D k) h (fun _ _ h => h)

/-- a new slice of a literal's elements -/
theorem At.bs {d : Tmp} {e : TypeId} {n : Nat} {L : List Value} (H : Sx w0 S N R G T w) (ho : ops[i]? = some o) (hw : Region.wanted o (yielded ops T) = true) (hn : noDefer o.op = true) (hd : o.dst = some d) (hN : Nat.blt d N = true)
    (hr : (execOp (evT T) o).run P w = .ok (.value (.slice (some ⟨w.heap.size, 0, none⟩) n n)) (w.alloc (.cells L.toArray e)))
    (K : ∀ g T' w', Sx w0 S N ((d, .slice (some ⟨g, 0, none⟩) n n) :: R) (.blk g (Eo (.cells L.toArray e (0, 0))) :: G) T' w' → At P Φ b cs D (.inRegion ops rest :: k) T' w') :
    At P Φ b cs D (.inRegion ops (i :: rest) :: k) T w :=
  At.newObj (f := fun m => .slice (some ⟨m, 0, none⟩) n n) H ho hw hn hd hN hr (fun g T' w' _ _ H' => K g T' w' H')
end

section
variable {P : Program} {w : World} {ρ : Operand → Value} {d : Option Tmp} {ty : TypeId} {pos : String} {af : Array Edge} {g : Option (Nat × Bool)}
theorem x_bs1 {t : TypeId} {n a : Nat} {x : Operand} {u : Value} {v : Value} {w' : World} (hx : ρ x = u) (hr : (Instr.buildSlice t n #[(a, u)]).run P w = .ok v w') :
    (execOp ρ ⟨d, .buildSlice t n #[(a, x)], ty, pos, af, g⟩).run P w = .ok (.value v) w' := by
  simp [execOp, hx, hr]
theorem x_bs2 {t : TypeId} {n a a' : Nat} {x x' : Operand} {u u' : Value} {v : Value} {w' : World} (hx : ρ x = u) (hx' : ρ x' = u') (hr : (Instr.buildSlice t n #[(a, u), (a', u')]).run P w = .ok v w') :
    (execOp ρ ⟨d, .buildSlice t n #[(a, x), (a', x')], ty, pos, af, g⟩).run P w = .ok (.value v) w' := by
  simp [execOp, hx, hx', hr]
theorem x_bs3 {t : TypeId} {n a a' a'' : Nat} {x x' x'' : Operand} {u u' u'' : Value} {v : Value} {w' : World} (hx : ρ x = u) (hx' : ρ x' = u') (hx'' : ρ x'' = u'') (hr : (Instr.buildSlice t n #[(a, u), (a', u'), (a'', u'')]).run P w = .ok v w') :
    (execOp ρ ⟨d, .buildSlice t n #[(a, x), (a', x'), (a'', x'')], ty, pos, af, g⟩).run P w = .ok (.value v) w' := by
  simp [execOp, hx, hx', hx'', hr]
end
end Go.Sx
namespace Go.Sx
section
variable {P : Program} {w : World} {ρ : Operand → Value} {d : Option Tmp} {ty : TypeId} {pos : String} {af : Array Edge} {g : Option (Nat × Bool)}
theorem x_slArrN {t e : TypeId} {x y z : Operand} {bk off len sz : Nat} {q q' : IntKind} {l n : Nat} (hx : ρ x = .pointer (some ⟨bk, off, none⟩)) (hy : ρ y = .int q (l : Int)) (hz : ρ z = .int q' (n : Int)) (hu : ∀ w, (underlying t).run P w = .ok (.array len e) w)
    (hs : ∀ w, (sizeOf e).run P w = .ok sz w) (h1 : l ≤ n) (h2 : n ≤ len) (h3 : l < len) :
    (execOp ρ ⟨d, .slice t x (some y) (some z) none, ty, pos, af, g⟩).run P w = .ok (.value (.slice (some ⟨bk, off + l * sz, none⟩) (n - l) (len - l))) w := by
  have := x_slArr (P := P) (w := w) (d := d) (ty := ty) (pos := pos) (af := af) (g := g) hx hy hz hu hs (by omega) (by omega) (by omega) (by omega)
  simpa using this
end
end Go.Sx
end
section
namespace Go.Sx
open Go.RowKit

theorem args0 {T : Array Value} : (#[] : Array Operand).map (evT T) = #[] := by simp
/-! ### Choosing what is still known -/
inductive Picks : List Ent → List Ent → Prop where
  | nil {G : List Ent} : Picks G []
  | cons {x : Ent} {G G0 G' : List Ent} : Take x G G0 → Picks G0 G' → Picks G (x :: G')
  | all {G : List Ent} : Picks G G
  | skip {x : Ent} {G G' : List Ent} : Picks G G' → Picks (x :: G) G'

theorem Picks.perm {G G' : List Ent} (h : Picks G G') : ∃ X, (G' ++ X).Perm G := by
  induction h with
  | nil => exact ⟨_, List.Perm.refl _⟩
  | cons ht _ ih => obtain ⟨X, hX⟩ := ih; exact ⟨X, (List.Perm.cons _ hX).trans ht.perm⟩
  | all => exact ⟨[], by simp⟩
  | @skip x G G' _ ih => obtain ⟨X, hX⟩ := ih; exact ⟨x :: X, List.perm_middle.trans (List.Perm.cons _ hX)⟩
theorem Ev.mono {P : Program} {m : Machine} {Φ Ψ : Machine → Prop} (h : Ev P m Φ) (hi : ∀ m, Φ m → Ψ m) : Ev P m Ψ := let ⟨m', h1, h2⟩ := h; ⟨m', h1, hi _ h2⟩

section
variable {P : Program} {Φ : Machine → Prop} {b : Frame} {cs : List Frame} {D : List Deferred} {k : List Item} {T : Array Value} {w : World}
variable {w0 : World} {S : List Nat} {N : Nat} {R : List (Nat × Value)} {G : List Ent}
variable {ops : Array Oper} {i : Nat} {rest : List Nat} {o : Oper}

theorem Sx.picks (H : Sx w0 S N R G T w) {G' : List Ent} (h : Picks G G') : Sx w0 S N R G' T w := by
  obtain ⟨X, hX⟩ := h.perm
  exact (H.perm hX).sublist (List.sublist_append_left _ _)

/-- the registers of another time -/
theorem Sx.retmp {R' : List (Nat × Value)} {G' : List Ent} {T' : Array Value} {w' : World} (H : Sx w0 S N R' G' T' w') (H0 : Sx w0 S N R G T w) : Sx w0 S N R G' T w' :=
  ⟨H.fr, H0.size, H0.reg, H.ent, H.own, H.nd⟩

/-- a loop that may leave deferred calls -/
theorem At.loopD {c : Code} (I : Nat → List Deferred → Array Value → World → Prop) (n : Nat) (h0 : I n D T w)
    (round : ∀ n D T w, I n D T w → (∀ n' D' T' w', n' < n → I n' D' T' w' → At P Φ b cs D' (.inLoop c :: k) T' w') → At P Φ b cs D (.code c :: .inLoop c :: k) T w) :
    At P Φ b cs D (.code (.loop c) :: k) T w := by
  have key : ∀ n D T w, I n D T w → At P Φ b cs D (.inLoop c :: k) T w := by
    intro n
    induction n using Nat.strongRecOn with
    | _ n ih =>
      intro D T w hI
      exact At.inLoop (round n D T w hI (fun n' D' T' w' hlt hI' => ih n' hlt D' T' w' hI'))
  exact At.loop1 (round n D T w h0 (fun n' D' T' w' _ hI' => key n' D' T' w' hI'))

/-- a call of a function value that says yes or no, and turns what it turns -/
theorem At.fVb {x : Operand} {xs : Array Operand} {ts : Array TypeId} {fv : Value} {args : Array Value} {A B : World → Prop} {d : Tmp} (H : Sx w0 S N R G T w) (ho : ops[i]? = some o) (hw : Region.wanted o (yielded ops T) = true)
    (hop : o.op = .call { callee := .value x, args := xs, argTypes := ts }) (hd : o.dst = some d) (hN : Nat.blt d N = true)
    (hx : evT T x = fv) (ha : xs.map (evT T) = args) (hc : CallsV P fv args w (fun e w' => (e = .returned (.bool true) ∧ A w') ∨ (e = .returned (.bool false) ∧ B w')))
    (Kt : ∀ T' w', A w' → Sx w' [] N ((d, .bool true) :: R) [] T' w' → At P Φ b cs D (.inRegion ops rest :: k) T' w')
    (Kf : ∀ T' w', B w' → Sx w' [] N ((d, .bool false) :: R) [] T' w' → At P Φ b cs D (.inRegion ops rest :: k) T' w') :
    At P Φ b cs D (.inRegion ops (i :: rest) :: k) T w := by
  refine At.callV ho hw hop hx ha hc ?_
  rintro e w2 (⟨rfl, hA⟩ | ⟨rfl, hB⟩)
  · show At _ _ _ _ _ _ _ _
    rw [hd]
    exact Kt _ w2 hA ((H.rebase w2).put d _ (lt_of_blt hN))
  · show At _ _ _ _ _ _ _ _
    rw [hd]
    exact Kf _ w2 hB ((H.rebase w2).put d _ (lt_of_blt hN))

/-! ### Iterators -/
/-- a function over which loops range: it yields these, whatever is done with each -/
def IterC (P : Program) (g : FuncId) (fst cap : Array Value) (xs : List Value) (Env : World → Prop) : Prop :=
  ∀ (yv : Value) (J : Nat → World → Prop) (Jx : World → Prop) (w : World), J 0 w → (∀ k w, J k w → Env w) → (∀ k w w', J k w → Fr [] w w' → J k w') →
    (∀ k x w, xs[k]? = some x → J k w → CallsV P yv #[x] w (fun e w' => (e = .returned (.bool true) ∧ J (k + 1) w') ∨ (e = .returned (.bool false) ∧ Jx w'))) →
    Calls P g (fst ++ #[yv] ++ cap) w (fun e w' => e = .returned (.tuple #[]) ∧ (J xs.length w' ∨ Jx w'))

def lpO (b : Frame) (T : Array Value) (p : Tmp) (assign body : Code) (d : Nat) (st : LoopState) (pd : Option Code) : Obj := .loop { theLoop b T #[p] assign body d with state := st, pending := pd }
def dfO : Obj := .deferred (some [])

def RdΦ (c : Frame) (cs : List Frame) (Q : Bool → World → Prop) (m : Machine) : Prop := ∃ v w', Q v w' ∧ m = lone (c.finish (.bool v)) cs w'

/-- how a round leaves memory -/
def RdQ (w0 : World) (S : List Nat) (N : Nat) (lo : LoopState → Option Code → Obj) (l d : Nat) (A : List Ent → Prop) (B : Code → List Ent → Prop) (v : Bool) (w : World) : Prop :=
  match v with
  | true => ∃ G' T', A G' ∧ Sx w0 S N [] (.blk l (Eo (lo .ready none)) :: .blk d (Eo dfO) :: G') T' w
  | false => ∃ c G' T', B c G' ∧ Sx w0 S N [] (.blk l (Eo (lo .done (some c))) :: .blk d (Eo dfO) :: G') T' w

theorem At.range {f : Operand} {p : Tmp} {assign body : Code} {g : FuncId} {fst cap : Array Value} {xs : List Value} {Env : World → Prop} (H : Sx w0 S N R G T w) (hro : b.roundOf = none)
    (hf : evT T f = .func (.func g) fst cap) (hg : hasBody P g) (hp : Nat.blt p N = true) (hI : IterC P g fst cap xs Env)
    (Inv : Nat → List Ent → Prop) (Exit : Code → List Ent → Prop) (h0 : Inv 0 G)
    (hEnv : ∀ k G' w', Inv k G' → Sx w0 S N R G' T w' → Env w')
    (hround : ∀ d l k x G' T' w' c cs' lo, lo = lpO b T p assign body d → xs[k]? = some x → Inv k G' → Sx w0 S N ((p, x) :: R) (.blk l (Eo (lo .ready none)) :: .blk d (Eo dfO) :: G') T' w' →
      At P (RdΦ c cs' (RdQ w0 S N lo l d (Inv (k + 1)) Exit)) (baseR b.fn l) (c :: cs') [] [.code assign, .beginRound, .code body] T' w')
    (hend : ∀ d G' w', Inv xs.length G' → Sx w0 S N R (.blk d (Eo dfO) :: G') T w' → At P Φ b cs (coll d :: D) k T w')
    (hexit : ∀ d c G' w', Exit c G' → Sx w0 S N R (.blk d (Eo dfO) :: G') T w' → At P Φ b cs (coll d :: D) (.code c :: k) T w') :
    At P Φ b cs D (.code (.rangeFunc f #[p] assign body) :: k) T w := by
  generalize hd : w.heap.size = d
  have H1 : Sx w0 S N R (.blk d (Eo dfO) :: G) T (newO w dfO) := H.new (Fr.alloc _ _) _ ⟨_, by rw [← hd]; exact heap_alloc_new w _, rfl⟩ (by simp [Ent.keys, hd]) (by simp [Ent.keys])
  have hsz : (newO w dfO).heap.size = d + 1 := by simp [newO, hd]
  have H2 : Sx w0 S N R (.blk (d + 1) (Eo (lpO b T p assign body d .ready none)) :: .blk d (Eo dfO) :: G) T (newO (newO w dfO) (lpO b T p assign body d .ready none)) :=
    H1.new (Fr.alloc _ _) _ ⟨_, by rw [← hsz]; exact heap_alloc_new _ _, rfl⟩ (by simp [Ent.keys]; omega) (by simp [Ent.keys])
  let J : Nat → World → Prop := fun k w' => ∃ G', Inv k G' ∧ Sx w0 S N R (.blk (d + 1) (Eo (lpO b T p assign body d .ready none)) :: .blk d (Eo dfO) :: G') T w'
  let Jx : World → Prop := fun w' => ∃ c G', Exit c G' ∧ Sx w0 S N R (.blk (d + 1) (Eo (lpO b T p assign body d .done (some c))) :: .blk d (Eo dfO) :: G') T w'
  refine At.rangeFunc (g := g) (fst := fst) (cap := cap) (R := fun e w' => e = .returned (.tuple #[]) ∧ (J xs.length w' ∨ Jx w')) hro hf hg ?_ ?_
  · rw [hd]
    refine hI _ J Jx _ ⟨G, h0, H2⟩ ?_ ?_ ?_
    · rintro k w' ⟨G', hi, H'⟩
      exact hEnv k G' w' hi ((H'.sublist (List.sublist_cons_self _ _)).sublist (List.sublist_cons_self _ _))
    · rintro k w' w'' ⟨G', hi, H'⟩ hfr
      exact ⟨G', hi, H'.world hfr⟩
    · rintro k x w' hx ⟨G', hi, H'⟩
      have hl := H'.heap (b := d + 1) (o := lpO b T p assign body d .ready none) (by simp)
      refine CallsV.yield hl rfl (rounds_of_at fun c cs' => ?_)
      have hr := hround d (d + 1) k x G' (putT T (some p) x) w' c cs' _ rfl hx hi (H'.put p x (lt_of_blt hp))
      have e1 : ((#[p] : Array Tmp).zip #[x]).foldl (fun tmps (t, a) => tmps.setIfInBounds t a) T = putT T (some p) x := by simp [putT]
      show Ev P (lone (fr (baseR b.fn (d + 1)) (((#[p] : Array Tmp).zip #[x]).foldl (fun tmps (t, a) => tmps.setIfInBounds t a) T) [] [.code assign, .beginRound, .code body]) (c :: cs') w') _
      rw [e1]
      refine Ev.mono hr ?_
      rintro m ⟨v, w2, hQ, rfl⟩
      refine ⟨.bool v, w2, ?_, rfl⟩
      cases v with
      | true =>
        obtain ⟨G2, T2, hA, H2⟩ := hQ
        exact .inl ⟨rfl, G2, hA, H2.retmp H⟩
      | false =>
        obtain ⟨c2, G2, T2, hA, H2⟩ := hQ
        exact .inr ⟨rfl, c2, G2, hA, H2.retmp H⟩
  · rw [hd]
    rintro e w2 ⟨rfl, ⟨G', hi, H'⟩ | ⟨c, G', hi, H'⟩⟩
    · have hl := H'.heap (b := d + 1) (o := lpO b T p assign body d .ready none) (by simp)
      refine At.endRangeFunc hl (by simp) ?_
      exact hend d G' _ hi ((H'.upd (x' := .blk (d + 1) (Eo _)) .here (Fr.setO _ _ _) ⟨_, setO_same hl, rfl⟩ (by simp [Ent.keys, Ent.w]) (by simp [Ent.keys])).sublist (List.sublist_cons_self _ _))
    · have hl := H'.heap (b := d + 1) (o := lpO b T p assign body d .done (some c)) (by simp)
      refine At.endRangeFunc hl (by simp) ?_
      exact hexit d c G' _ hi ((H'.upd (x' := .blk (d + 1) (Eo _)) .here (Fr.setO _ _ _) ⟨_, setO_same hl, rfl⟩ (by simp [Ent.keys, Ent.w]) (by simp [Ent.keys])).sublist (List.sublist_cons_self _ _))

theorem At.begR {l d : Nat} {b0 : Frame} {T0 : Array Value} {p : Tmp} {assign body : Code} {lo : LoopState → Option Code → Obj} (H : Sx w0 S N R (.blk l (Eo (lo .ready none)) :: G) T w) (hlo : lo = lpO b0 T0 p assign body d) (hro : b.roundOf = some l)
    (K : ∀ w', Sx w0 S N R (.blk l (Eo (lo .busy none)) :: G) T w' → At P Φ b cs D k T w') : At P Φ b cs D (.beginRound :: k) T w := by
  subst hlo
  have hl := H.heap (b := l) (o := lpO b0 T0 p assign body d .ready none) (by simp)
  refine At.beginRound hro hl rfl (K _ ?_)
  exact H.upd .here (Fr.setO _ _ _) ⟨_, setO_same hl, rfl⟩ (by simp [Ent.keys, Ent.w]) (by simp [Ent.keys])

theorem At.leaveN {c : Frame} {l d : Nat} {b0 : Frame} {T0 : Array Value} {p : Tmp} {assign body : Code} {lo : LoopState → Option Code → Obj} {A : List Ent → Prop} {B : Code → List Ent → Prop} {G' : List Ent} (H : Sx w0 S N R G T w)
    (hlo : lo = lpO b0 T0 p assign body d) (hro : b.roundOf = some l) (hkd : b.kind = .normal) (hp : Picks G (.blk l (Eo (lo .busy none)) :: .blk d (Eo dfO) :: G')) (hA : A G') :
    At P (RdΦ c cs (RdQ w0 S N lo l d A B)) b (c :: cs) D [] T w := by
  subst hlo
  have H' := H.picks hp
  have hl := H'.heap (b := l) (o := lpO b0 T0 p assign body d .busy none) (by simp)
  refine At.leaveRound (jump := none) hro hkd hl (.inl ⟨rfl, rfl⟩) ⟨true, _, ⟨G', T, hA, ?_⟩, rfl⟩
  exact (H'.upd (x' := .blk l (Eo _)) .here (Fr.setO _ _ _) ⟨_, setO_same hl, rfl⟩ (by simp [Ent.keys, Ent.w]) (by simp [Ent.keys])).sub (R' := []) trivial

theorem At.leaveRet {c : Frame} {l d : Nat} {b0 : Frame} {T0 : Array Value} {p : Tmp} {assign body : Code} {lo : LoopState → Option Code → Obj} {A : List Ent → Prop} {B : Code → List Ent → Prop} {G' : List Ent} {k' : List Item} (H : Sx w0 S N R G T w)
    (hlo : lo = lpO b0 T0 p assign body d) (hro : b.roundOf = some l) (hkd : b.kind = .normal) (hp : Picks G (.blk l (Eo (lo .busy none)) :: .blk d (Eo dfO) :: G')) (hB : B .ret G') :
    At P (RdΦ c cs (RdQ w0 S N lo l d A B)) b (c :: cs) D (.code .ret :: k') T w := by
  subst hlo
  have H' := H.picks hp
  have hl := H'.heap (b := l) (o := lpO b0 T0 p assign body d .busy none) (by simp)
  refine At.leaveRound (jump := some .ret) hro hkd hl (.inr (.inl ⟨_, rfl, rfl⟩)) ⟨false, _, ⟨.ret, G', T, hB, ?_⟩, rfl⟩
  exact (H'.upd (x' := .blk l (Eo _)) .here (Fr.setO _ _ _) ⟨_, setO_same hl, rfl⟩ (by simp [Ent.keys, Ent.w]) (by simp [Ent.keys])).sub (R' := []) trivial

/-- a frame that leaves, the rounds' deferred calls are none -/
theorem Lea.colls : ∀ (ds : List Nat) {w : World} {G' : List Ent}, Sx w0 S N R (ds.map (fun d => .blk d (Eo dfO)) ++ G') T w → (∀ w', Sx w0 S N R G' T w' → Lea P Φ b cs D T w') → Lea P Φ b cs (ds.map coll ++ D) T w
  | [], w, G', H, h => h w H
  | d :: ds, w, G', H, h => by
    have hl := H.heap (b := d) (o := dfO) (by simp)
    refine Lea.collected hl (Lea.colls ds ?_ h)
    exact (H.upd (x' := .blk d (Eo _)) .here (Fr.setO _ _ _) ⟨_, setO_same hl, rfl⟩ (by simp [Ent.keys, Ent.w]) (by simp [Ent.keys])).sublist (List.sublist_cons_self _ _)
theorem Lea.coll1 {d : Nat} {G' : List Ent} (H : Sx w0 S N R G T w) (hp : Picks G (.blk d (Eo dfO) :: G')) (h : ∀ w', Sx w0 S N R G' T w' → Lea P Φ b cs D T w') : Lea P Φ b cs (coll d :: D) T w :=
  Lea.colls [d] (H.picks hp) h
end

/-! ### Results -/
section
variable {P : Program} {T : Array Value} {w : World}
inductive RV (P : Program) (T : Array Value) (w : World) : List ResultVar → List Value → Prop where
  | nil : RV P T w [] []
  | tmp {t : Tmp} {v : Value} {r : List ResultVar} {vs : List Value} (hv : evT T (.tmp t) = v) : RV P T w r vs → RV P T w (.tmp t :: r) (v :: vs)
  | cell {a : Tmp} {t : TypeId} {ad : Addr} {v : Value} {r : List ResultVar} {vs : List Value} (ha : evT T (.tmp a) = .pointer (some ad)) (hg : ∀ w, (isAgg t).run P w = .ok false w) (hc : w.cell? ad = some v) : RV P T w r vs → RV P T w (.cell a t :: r) (v :: vs)
  | cellA {a : Tmp} {t : TypeId} {bk off n : Nat} {l : List Value} {r : List ResultVar} {vs : List Value} (ha : evT T (.tmp a) = .pointer (some ⟨bk, off, none⟩)) (hg : ∀ w, (isAgg t).run P w = .ok true w) (hs : ∀ w, (sizeOf t).run P w = .ok n w) (hc : CellsAt w bk off l) (hl : l.length = n) : RV P T w r vs → RV P T w (.cell a t :: r) (.agg l.toArray :: vs)

def rv1 (T : Array Value) : ResultVar → Sem Value
  | .tmp t => pure (T.getD t undef)
  | .cell a t => do loadVar t (← asAddr (T.getD a undef))
theorem RV.run {rs : List ResultVar} {vs : List Value} (h : RV P T w rs vs) : (rs.mapM (rv1 T)).run P w = .ok vs w := by
  induction h with
  | nil => rfl
  | tmp hv _ ih =>
    have hv' : T.getD _ undef = _ := hv
    simp only [List.mapM_cons, rv1, Sem.run_bind, Sem.run_pure, Result.andThen_ok, ih, hv']
  | @cell a t ad v r vs ha hg hc _ ih =>
    have ha' : T.getD _ undef = _ := ha
    have h1 : (rv1 T (.cell a t)).run P w = .ok v w := by
      simp only [rv1, ha', Sem.run_bind, asAddr, Sem.run_pure, Result.andThen_ok, loadVar, hg]
      simp [hc]
    simp only [List.mapM_cons, Sem.run_bind, Sem.run_pure, Result.andThen_ok, ih, h1]
  | @cellA a t bk off n l r vs ha hg hs hc hl _ ih =>
    have ha' : T.getD _ undef = _ := ha
    have h := run_loadCells_list (P := P) w ⟨_, _, none⟩ _ (fun j u hj => by rw [add_plain']; exact hc j u hj)
    subst hl
    have h1 : (rv1 T (.cell a t)).run P w = .ok (.agg l.toArray) w := by
      simp only [rv1, ha', Sem.run_bind, asAddr, Sem.run_pure, Result.andThen_ok, loadVar, hg]
      simp [hs, h]
    simp only [List.mapM_cons, Sem.run_bind, Sem.run_pure, Result.andThen_ok, ih, h1]

theorem run_mapM_arr {α β : Type} (f : α → Sem β) (l : List α) {vs : List β} (h : (l.mapM f).run P w = .ok vs w) : (l.toArray.mapM f).run P w = .ok vs.toArray w := by
  rw [List.mapM_toArray]
  simp [h]
theorem results_eq (fn : Func) : results fn T = (do let vs ← fn.results.mapM (rv1 T); pure (if h : vs.size = 1 then vs[0] else .tuple vs)) := by
  unfold results
  congr 1
  first | done | (congr 1; funext x; cases x <;> rfl)

theorem resL {fn : Func} {rs : List ResultVar} {vs : List Value} (h : fn.results = rs.toArray) (hr : RV P T w rs vs) (hn : vs.length ≠ 1) : (results fn T).run P w = .ok (.tuple vs.toArray) w := by
  rw [results_eq, h, Sem.run_bind, run_mapM_arr _ _ hr.run]
  simp [hn]
theorem resL1 {fn : Func} {x : ResultVar} {v : Value} (h : fn.results = #[x]) (hr : RV P T w [x] [v]) : (results fn T).run P w = .ok v w := by
  rw [results_eq, h, Sem.run_bind, run_mapM_arr _ [x] hr.run]
  simp
end
end Go.Sx
namespace Go.Sx
section
variable {P : Program} {w : World} {ρ : Operand → Value} {d : Option Tmp} {ty : TypeId} {pos : String} {af : Array Edge} {g : Option (Nat × Bool)}
theorem x_build0 {t : TypeId} {v : Value} (hr : (Instr.build t #[]).run P w = .ok v w) : (execOp ρ ⟨d, .build t #[], ty, pos, af, g⟩).run P w = .ok (.value v) w := by
  simp [execOp, hr]
end
end Go.Sx
end
section
namespace Go.Sx
open Go.RowKit

/-- choosing, entries in between passed over -/
inductive Pk : List Ent → List Ent → Prop where
  | nil {G : List Ent} : Pk G []
  | all {G : List Ent} : Pk G G
  | cons {x : Ent} {G G0 G' : List Ent} : Take x G G0 → Pk G0 G' → Pk G (x :: G')
  | skip {x : Ent} {G G' : List Ent} : Pk G G' → Pk (x :: G) G'
theorem Pk.perm {G G' : List Ent} (h : Pk G G') : ∃ X, (G' ++ X).Perm G := by
  induction h with
  | nil => exact ⟨_, List.Perm.refl _⟩
  | all => exact ⟨[], by simp⟩
  | cons ht _ ih => obtain ⟨X, hX⟩ := ih; exact ⟨X, (List.Perm.cons _ hX).trans ht.perm⟩
  | @skip x G G' _ ih => obtain ⟨X, hX⟩ := ih; exact ⟨x :: X, List.perm_middle.trans (List.Perm.cons _ hX)⟩

section
variable {P : Program} {Φ : Machine → Prop} {b : Frame} {cs : List Frame} {D : List Deferred} {k : List Item}
variable {ops : Array Oper} {Kf : Array Value → World → Prop} {Kp : KP}
variable {T : Array Value} {w : World} {w0 : World} {S : List Nat} {N : Nat} {R : List (Nat × Value)} {G : List Ent}
variable {i n : Nat} {o : Oper} {L L' : Array Bool}

theorem Sx.pk (H : Sx w0 S N R G T w) {G' : List Ent} (h : Pk G G') : Sx w0 S N R G' T w := by
  obtain ⟨X, hX⟩ := h.perm
  exact (H.perm hX).sublist (List.sublist_append_left _ _)

/-- an operation that makes something, alone ready -/
theorem GA.op {v : Value} {w' : World} (ho : ops[i]? = some o) (hw : Region.wanted o (yielded ops T) = true) (hn : noDefer o.op = true) (hq : Region.ready .any ops L = [i]) (hL : L.setIfInBounds i true = L')
    (hr : (execOp (evT T) o).run P w = .ok (.value v) w') (hx : extK Kp.m o = true → Fr [] w w') (K : GA P ops Kf Kp n L' (putT T o.dst v) w') : GA P ops Kf Kp (n + 1) L T w := by
  refine GA.only ho hq hL hw ⟨hn, ?_⟩
  rw [hr]
  exact ⟨hx, K⟩

theorem GA.bs {d : Tmp} {e : TypeId} {m : Nat} {C : List Value} (H : Sx w0 S N R G T w) (ho : ops[i]? = some o) (hw : Region.wanted o (yielded ops T) = true) (hn : noDefer o.op = true) (hd : o.dst = some d) (hN : Nat.blt d N = true)
    (hq : Region.ready .any ops L = [i]) (hL : L.setIfInBounds i true = L')
    (hr : (execOp (evT T) o).run P w = .ok (.value (.slice (some ⟨w.heap.size, 0, none⟩) m m)) (w.alloc (.cells C.toArray e)))
    (K : ∀ g T' w', Sx w0 S N ((d, .slice (some ⟨g, 0, none⟩) m m) :: R) (.blk g (Eo (.cells C.toArray e (0, 0))) :: G) T' w' → GA P ops Kf Kp n L' T' w') : GA P ops Kf Kp (n + 1) L T w :=
  GA.new (f := fun g => .slice (some ⟨g, 0, none⟩) m m) H ho hw hn hd hN hq hL hr K

theorem GA.append {s x : Operand} {t e : TypeId} {sz bytes q m c g off : Nat} {z v : Value} {l news : List Value} {G0 : List Ent} {d : Tmp}
    (H : Sx w0 S N R G T w) (ho : ops[i]? = some o) (hw : Region.wanted o (yielded ops T) = true) (hop : o.op = .call { callee := .builtin .append, args := #[s, x], argTypes := #[t, t] }) (hd : o.dst = some d) (hN : Nat.blt d N = true)
    (hq : Region.ready .any ops L = [i]) (hL : L.setIfInBounds i true = L')
    (E : ET P t e sz bytes z) (hx : evT T s = v) (hy : evT T x = .slice (some ⟨g, off, none⟩) m c) (ht : Take (.row v e sz q l) G G0)
    (hnews : CellsAt w g off news) (hl : news.length = m * sz) (h1 : ∀ u ∈ news, u.oneCell' = true) (hsm : q + m ≤ 1048576)
    (K : ∀ A cap T' w', q + m ≤ cap → (0 < q + m → ∃ g, A = some ⟨g, 0, none⟩) → Sx w0 S N ((d, .slice A (q + m) cap) :: R) (.row (.slice A (q + m) cap) e sz (q + m) (l ++ news) :: G0) T' w' → GA P ops Kf Kp n L' T' w') :
    GA P ops Kf Kp (n + 1) L T w := by
  have hown := H.ent _ ht.mem
  obtain ⟨i0, hi, hz1, hz2, hz3⟩ := E.hi
  have hb := E.hb
  have h63 : q + m ≤ maxLen := by unfold maxLen; omega
  have hby : (q + m) * bytes ≤ 140737488355328 := Nat.le_trans (Nat.mul_le_mul hsm hb) (by decide)
  obtain ⟨v', w', hr, hown', hg, _, hat⟩ := run_append_own_at (P := P) w 0 t o.type e i0 z sz bytes E.ht hi hz1 hz2 hz3 E.hz E.h0 v q l hown ⟨g, off, none⟩ m c news hl (fun j u hj => by rw [add_plain']; exact hnews j u hj) h1 h63 hby (Nat.zero_le _)
  obtain ⟨A, cap, rfl, hle, hA⟩ := row_slice hown'
  refine GA.op (v := .slice A (q + m) cap) (w' := w') ho hw (by rw [hop]; rfl) hq hL ?_ (fun h => by simp [extK, hop] at h) ?_
  · unfold execOp
    rw [hop]
    simp [resolve, invoke, builtin, hx, hy, hr]
  · rw [hd]
    refine K A cap _ w' hle hA (Sx.put ?_ d _ (lt_of_blt hN))
    have hu : Upd (.row (.slice A (q + m) cap) e sz (q + m) (l ++ news)) (.row v e sz q l) (.row v e sz q l :: G0) (.row (.slice A (q + m) cap) e sz (q + m) (l ++ news) :: G0) := .here
    refine (H.front ht).upd hu (Fr.grown hg) hown' ?_ ?_
    · intro k hk
      simp only [Ent.keys, Ent.w, Option.mem_toList] at hk ⊢
      rcases hat with h | h
      · exact .inl (by rw [← h]; exact hk)
      · rw [h] at hk
        simp only [Option.some.injEq] at hk
        exact .inr (by omega)
    · simp only [Ent.keys]
      cases (Value.slice A (q + m) cap).ownBlock with
      | none => exact List.nodup_nil
      | some x => simp

theorem Sx.rowSl {α : Type} {enc : α → List Value} (H : Sx w0 S N R G T w) {v : Value} {e : TypeId} {sz m : Nat} {xs : List α} {l : List Value} (h : Ent.row v e sz m l ∈ G) (hlen : ∀ x, (enc x).length = sz) (hm : m = xs.length) (hl : l = xs.flatMap enc) : Sl enc sz w v xs := by
  subst hm hl
  exact row_sl hlen (H.ent _ h)
/-- a block of cells as a slice -/
theorem Sx.blkSl {α : Type} {enc : α → List Value} (H : Sx w0 S N R G T w) {g m cap : Nat} {e : TypeId} {sz : Nat} {xs : List α} {C : List Value} {fz : Nat × Nat} (h : Ent.blk g (Eo (.cells C.toArray e fz)) ∈ G) (hlen : ∀ x, (enc x).length = sz) (hm : m = xs.length) (hcap : m ≤ cap) (hl : C = xs.flatMap enc) : Sl enc sz w (.slice (some ⟨g, 0, none⟩) m cap) xs := by
  subst hm hl
  refine ⟨_, cap, g, 0, rfl, hcap, fun _ => rfl, fun i x hx j u hj => ?_⟩
  refine H.cell h _ ?_
  have key : ∀ (xs : List α) i x, xs[i]? = some x → ∀ j u, (enc x)[j]? = some u → (xs.flatMap enc)[i * sz + j]? = some u := by
    intro xs
    induction xs with
    | nil => intro i x hx; simp at hx
    | cons y r ih =>
      intro i x hx j u hj
      rw [List.flatMap_cons]
      cases i with
      | zero =>
        simp only [List.getElem?_cons_zero, Option.some.injEq] at hx
        subst hx
        rw [Nat.zero_mul, Nat.zero_add, List.getElem?_append_left (List.getElem?_eq_some_iff.1 hj).1, hj]
      | succ i =>
        rw [List.getElem?_cons_succ] at hx
        rw [List.getElem?_append_right (by rw [hlen, Nat.succ_mul]; omega), hlen, Nat.succ_mul]
        have := ih i x hx j u hj
        rw [show i * sz + sz + j - sz = i * sz + j by omega]
        exact this
  have := key xs i x hx j u hj
  rw [show 0 + i * sz + j = i * sz + j by omega]
  simpa using this
end
end Go.Sx
namespace Go.Sx
theorem info_of {P : Program} {t : TypeId} {i : TypeInfo} (w : World) (h : ∀ w, (typeInfo t).run P w = .ok i w) : P.info? t = some i := by
  have h1 := h w
  cases h2 : P.info? t with
  | none => simp [typeInfo, h2] at h1
  | some j => simp [typeInfo, h2] at h1; rw [h1]
theorem ET.of {P : Program} {t e : TypeId} {sz bytes : Nat} {z : Value} {i : TypeInfo} (w : World) (ht : P.underlying t = some (.slice e)) (hi : ∀ w, (typeInfo e).run P w = .ok i w) (h1 : i.zero = some z) (h2 : i.size = sz) (h3 : i.bytes = bytes) (hz : z.cells.size = sz) (h0 : 0 < sz) (hb : bytes ≤ 1048576) : ET P t e sz bytes z :=
  ⟨ht, ⟨i, info_of w hi, h1, h2, h3⟩, hz, h0, hb⟩
end Go.Sx
namespace Go.Sx
open Go.RowKit
section
variable {P : Program} {Φ : Machine → Prop} {b : Frame} {cs : List Frame} {D : List Deferred} {k : List Item}
variable {T : Array Value} {w : World} {w0 : World} {S : List Nat} {N : Nat} {R : List (Nat × Value)} {G : List Ent}
def dE (d : Nat) : Ent := .blk d (Eo dfO)
theorem Lea.colls0 {ds : List Nat} {G' : List Ent} (H : Sx w0 S N R (G' ++ ds.map dE) T w) (h : ∀ w', Sx w0 S N R G' T w' → Lea P Φ b cs [] T w') : Lea P Φ b cs (ds.map coll) T w := by
  have := Lea.colls (P := P) (Φ := Φ) (b := b) (cs := cs) (D := []) ds (H.perm List.perm_append_comm) h
  simpa using this
theorem Sx.rowAddr (H : Sx w0 S N R G T w) {A : Option Addr} {n c : Nat} {e : TypeId} {sz : Nat} {l : List Value} (h : Ent.row (.slice A n c) e sz n l ∈ G) (hn : 0 < n) : ∃ g, A = some ⟨g, 0, none⟩ := by
  obtain ⟨A', c', h1, _, h2⟩ := row_slice (H.ent _ h)
  simp only [Value.slice.injEq] at h1
  rw [h1.1]
  exact h2 hn
theorem Sx.rowCap (H : Sx w0 S N R G T w) {A : Option Addr} {n c : Nat} {e : TypeId} {sz : Nat} {l : List Value} (h : Ent.row (.slice A n c) e sz n l ∈ G) : n ≤ c := by
  obtain ⟨A', c', h1, h3, h2⟩ := row_slice (H.ent _ h)
  simp only [Value.slice.injEq] at h1
  rw [h1.2.2]; exact h3
theorem Sl.take {α : Type} {enc : α → List Value} {sz : Nat} {g off n cap : Nat} {xs : List α} (h : Sl enc sz w (.slice (some ⟨g, off, none⟩) n cap) xs) (m : Nat) (hm : m ≤ xs.length) (h0 : xs ≠ []) : Sl enc sz w (.slice (some ⟨g, off, none⟩) m cap) (xs.take m) := by
  obtain ⟨A, c, bk, o, h1, hP⟩ := h
  simp only [Value.slice.injEq] at h1
  obtain ⟨rfl, rfl, rfl⟩ := h1
  have ha := hP.addr h0
  simp only [Option.some.injEq, Addr.mk.injEq] at ha
  obtain ⟨rfl, rfl, _⟩ := ha
  exact ⟨_, cap, g, off, by rw [List.length_take, Nat.min_eq_left hm], hP.take m⟩
end
section
variable {P : Program} {w : World} {ρ : Operand → Value} {d : Option Tmp} {ty : TypeId} {pos : String} {af : Array Edge} {g : Option (Nat × Bool)}
theorem x_slS0 {t e : TypeId} {x y : Operand} {bk off n cap sz : Nat} {h : Int} (hx : ρ x = .slice (some ⟨bk, off, none⟩) n cap) (hh : ρ y = .int .i64 h)
    (hu : ∀ w, (underlying t).run P w = .ok (.slice e) w) (hs : ∀ w, (sizeOf e).run P w = .ok sz w) (h0 : 0 ≤ h) (h2 : h ≤ cap) :
    (execOp ρ ⟨d, .slice t x none (some y) none, ty, pos, af, g⟩).run P w = .ok (.value (.slice (some ⟨bk, off, none⟩) h.toNat cap)) w := by
  have := x_slS (P := P) (w := w) (d := d) (ty := ty) (pos := pos) (af := af) (g := g) (lo := none) (hi := some y) (l := 0) (h := h.toNat) hx (by simp) (by simp [hh]; omega) hu hs (by omega) (by omega)
  rw [this]
  simp [add_plain']
end
end Go.Sx
namespace Go.Sx
theorem meth {P : Program} {t : TypeId} {v : Value} {nm : String} {i : TypeInfo} {m : Method} {f : FuncId} {u : TypeDesc} {n : Nat} (w : World) (hi : ∀ w, (typeInfo t).run P w = .ok i w) (hm : i.methods.find? (·.name == nm) = some m) (hp : m.path.toList = [])
    (hf : m.func = some (f, false)) (hu : ∀ w, (underlying t).run P w = .ok u w) (hn : ∀ e, u ≠ .pointer e) : (method (n + 1) t v nm).run P w = .ok (f, v) w := by
  simp only [method, Sem.run_bind, hi, Result.andThen_ok, hm, hp, follow, Sem.run_pure, hf, receiverAt, hu]
  cases u <;> simp_all [Place.get]
end Go.Sx
namespace Go.Sx
theorem Sx.weaken {w0 w : World} {S : List Nat} {N : Nat} {R : List (Nat × Value)} {G G0 : List Ent} {T : Array Value} (H : Sx w0 S N R G T w) {g : Nat} {A B : Obj → Prop} (ht : Take (.blk g A) G G0) (h : ∀ o, A o → B o) : Sx w0 S N R (.blk g B :: G0) T w := by
  have H' := H.front ht
  refine ⟨H'.fr, H'.size, H'.reg, ?_, ?_, H'.nd⟩
  · intro x hx
    rcases List.mem_cons.1 hx with rfl | hx
    · obtain ⟨o, h1, h2⟩ := H'.ent (.blk g A) (by simp)
      exact ⟨o, h1, h o h2⟩
    · exact H'.ent x (by simp [hx])
  · intro x hx
    rcases List.mem_cons.1 hx with rfl | hx
    · exact H'.own (.blk g A) (by simp)
    · exact H'.own x (by simp [hx])
theorem Mp.ofNil : ∀ o, Eo (.map #[] 0) o → Mp (fun _ => none) o := fun o h => by rw [show o = .map #[] 0 from h]; exact Mp.nil
end Go.Sx
namespace Go.Sx
theorem Sx.mpAt {w0 w : World} {S : List Nat} {N : Nat} {R : List (Nat × Value)} {G : List Ent} {T : Array Value} (H : Sx w0 S N R G T w) {g : Nat} {A : Obj → Prop} (h : Ent.blk g A ∈ G) : ∃ o, w.heap[g]? = some o ∧ A o := H.ent _ h
end Go.Sx
end
section
namespace Go.Sx
open Go.RowKit

section
variable {P : Program} {Φ : Machine → Prop} {b : Frame} {cs : List Frame} {D : List Deferred} {k : List Item}
variable {ops : Array Oper} {Kf : Array Value → World → Prop}
variable {T : Array Value} {w : World} {w0 : World} {S : List Nat} {N : Nat} {R : List (Nat × Value)} {G : List Ent}
variable {i n : Nat} {o : Oper} {L L' : Array Bool} {rest : List Nat}

/-- 'copy' over a whole row of the call's own -/
theorem At.copyR {x y : Operand} {t t' e : TypeId} {bytes cap g m c bk off : Nat} {z : Value} {A : Option Addr} {l news : List Value} {G0 : List Ent} {d : Tmp}
    (H : Sx w0 S N R G T w) (ho : ops[i]? = some o) (hw : Region.wanted o (yielded ops T) = true) (hop : o.op = .call { callee := .builtin .copy, args := #[x, y], argTypes := #[t, t'] }) (hd : o.dst = some d) (hN : Nat.blt d N = true)
    (E : ET P t e 1 bytes z) (hx : evT T x = .slice (some ⟨g, 0, none⟩) m cap) (hy : evT T y = .slice A m c) (ht : Take (.row (.slice (some ⟨g, 0, none⟩) m cap) e 1 m l) G G0)
    (hsrc : 0 < m → A = some ⟨bk, off, none⟩ ∧ CellsAt w bk off news) (hl : news.length = m) (h1 : ∀ u ∈ news, u.oneCell' = true)
    (K : ∀ T' w', Sx w0 S N ((d, .int .i64 (m : Int)) :: R) (.row (.slice (some ⟨g, 0, none⟩) m cap) e 1 m news :: G0) T' w' → At P Φ b cs D (.inRegion ops rest :: k) T' w') :
    At P Φ b cs D (.inRegion ops (i :: rest) :: k) T w := by
  obtain ⟨i0, hi, _, hsz, _⟩ := E.hi
  have hs : (P.info? e).map (·.size) = some 1 := by rw [hi]; simp [hsz]
  have hown := H.ent _ ht.mem
  by_cases hm : m = 0
  · subst hm
    have hr : (execOp (evT T) o).run P w = .ok (.value (.int .i64 ((0 : Nat) : Int))) w := by
      unfold execOp
      rw [hop]
      have := run_copy_none (P := P) w t t' o.type e (some ⟨g, 0, none⟩) A 0 cap 0 c E.ht hs (by simp)
      simp [resolve, invoke, builtin, hx, hy, this, goInt]
    refine At.op ho hw (by rw [hop]; rfl) hr ?_
    rw [hd]
    obtain rfl : news = [] := List.eq_nil_of_length_eq_zero hl
    have hl0 : l = [] := List.eq_nil_of_length_eq_zero (by have := hown.1; simpa using this)
    subst hl0
    exact K _ _ ((H.front ht).put d _ (lt_of_blt hN))
  · obtain ⟨rfl, hc⟩ := hsrc (by omega)
    rcases hown.2 with ⟨h1', _⟩ | ⟨g', cap', cur, he, _, hg, hle, hmx, hcs, htk⟩
    · cases h1'
    · simp only [Value.slice.injEq, Option.some.injEq, Addr.mk.injEq, and_true, true_and] at he
      obtain ⟨rfl, rfl⟩ := he
      have hr0 := run_copy_row (P := P) w t t' o.type e g 0 m cap ⟨bk, off, none⟩ m c cur e news E.ht hs hg (by rw [hl]; simp) (fun j v hj => by rw [add_plain']; exact hc j v hj) (by rw [hl]; omega) h1
      have hr : (execOp (evT T) o).run P w = .ok (.value (.int .i64 (m : Int))) (w.setRow g (cur.toList.take 0 ++ news ++ cur.toList.drop (0 + news.length)).toArray) := by
        unfold execOp
        rw [hop]
        simp [resolve, invoke, builtin, hx, hy, hr0, goInt, hl]
      refine At.op ho hw (by rw [hop]; rfl) hr ?_
      rw [hd]
      refine K _ _ (Sx.put ?_ d _ (lt_of_blt hN))
      have hu : Upd (.row (.slice (some ⟨g, 0, none⟩) m cap) e 1 m news) (.row (.slice (some ⟨g, 0, none⟩) m cap) e 1 m l) (.row (.slice (some ⟨g, 0, none⟩) m cap) e 1 m l :: G0) (.row (.slice (some ⟨g, 0, none⟩) m cap) e 1 m news :: G0) := .here
      refine (H.front ht).upd hu (by simpa [Ent.w, Value.ownBlock] using Fr.setRow w g _) ?_ (fun k hk => .inl hk) (by simp [Ent.keys, Value.ownBlock])
      refine ⟨by simpa using hl, .inr ⟨g, cap, _, rfl, Nat.zero_le _, setRow_heap w g cur _ e _ hg, hle, hmx, ?_, ?_⟩⟩
      · have : cur.toList.length = cap := by simpa using hcs
        simp only [List.take_zero, List.nil_append, Nat.zero_add, List.size_toArray, List.length_append, List.length_drop, this]
        omega
      · simp [← hl]

/-- a store of one cell at a place that is told by a number -/
theorem At.store1S {x y : Operand} {t ty : TypeId} {g off : Nat} {v : Value} {C C' : List Value} {G' : List Ent} (H : Sx w0 S N R G T w) (ho : ops[i]? = some o) (hw : Region.wanted o (yielded ops T) = true)
    (hop : o.op = .store t x y) (hd : o.dst = none)
    (hx : evT T x = .pointer (some ⟨g, off, none⟩)) (hy : evT T y = v) (hs : ∀ w, (sizeOf t).run P w = .ok 1 w) (hv : v.cells = #[v]) (h1 : v.oneCell' = true)
    (hu : Upd (.blk g (Eo (.cells C'.toArray ty (0, 0)))) (.blk g (Eo (.cells C.toArray ty (0, 0)))) G G') (hC : off < C.length) (hC' : C.set off v = C')
    (K : ∀ T' w', Sx w0 S N R G' T' w' → At P Φ b cs D (.inRegion ops rest :: k) T' w') :
    At P Φ b cs D (.inRegion ops (i :: rest) :: k) T w := by
  have hg := H.heap hu.mem
  have hr := run_store_cells (P := P) (w := w) (t := t) hg hs (v := v) (l := [v]) (by rw [hv]) rfl (by simp [h1]) (off := off) (by simp only [List.length_singleton]; omega) (L' := C') (by
    rw [← hC', List.set_eq_take_append_cons_drop, if_pos hC]; simp)
  refine At.opS (w' := w.setRow g C'.toArray) ho hw (by rw [hop]; rfl) ?_ ?_
  · unfold execOp
    rw [hop]
    simp only [hx, hy, Sem.run_bind, hr, Result.andThen_ok]
    rfl
  · rw [hd]
    exact K _ _ (H.upd hu (Fr.setRow _ _ _) ⟨_, setRow_heap w g _ _ ty _ hg, rfl⟩ (by simp [Ent.keys, Ent.w]) (by simp [Ent.keys]))
end
end Go.Sx

namespace Go.Sx
theorem wUu {w0 w : World} {S : List Nat} {N : Nat} {R : List (Nat × Value)} {G : List Ent} {T : Array Value} {ops : Array Oper} {o : Oper} (H : Sx w0 S N R G T w) {j t : Nat} {c : Bool} (hg : o.guard = some (j, c)) (hj : (ops[j]?).bind (·.dst) = some t) (hl : look t R = some undef) :
    Region.wanted o (yielded ops T) = false := by
  simp [Region.wanted, hg, yielded, hj, H.reg t _ hl, undef]
end Go.Sx
end
section
namespace Go.Proofs.Pz
open Go.Sx

structure Wi where
  place : Int
  club : Int
  novice : Bool
  horses : Bool
  deriving DecidableEq, Inhabited
structure Zi where
  for_ : Int
  worth : Int
  deriving DecidableEq, Inhabited

def encW (x : Wi) : List Value := [.int .i64 x.place, .int .i64 x.club, .bool x.novice, .bool x.horses]
def encZ (x : Zi) : List Value := [.int .i64 x.for_, .int .i64 x.worth]
def encI (x : Int) : List Value := [.int .i64 x]

/-- who can have what it is for -/
def canW (f : Int) (m : Wi) : Bool :=
  if f = 0 then true else if f = 1 then m.novice else if f = 2 then m.horses else if f = 3 then m.novice && m.horses else decide (m.club ≠ 0)

/-- who is at a place: -1: nobody -/
def atP (men : List Wi) (p : Int) : Int :=
  match men.findIdx? (fun m => m.place = p) with
  | some i => (i : Int)
  | none => -1
def atL (men : List Wi) : List Int := [atP men 0, atP men 1, atP men 2, atP men 3, atP men 4, atP men 5, atP men 6, atP men 7, atP men 8]

def whoObj : Obj := .map #[⟨.int .i64 0, .func (.func 62) #[] #[], 0⟩, ⟨.int .i64 1, .func (.func 63) #[] #[], 1⟩, ⟨.int .i64 2, .func (.func 64) #[] #[], 2⟩, ⟨.int .i64 3, .func (.func 65) #[] #[], 3⟩, ⟨.int .i64 4, .func (.func 66) #[] #[], 4⟩] 5

def pzCells (AM : Option Addr) (nM cM : Nat) (AL : Option Addr) (nL cL mw : Nat) (a : List Int) : List Value :=
  .slice AM nM cM :: .slice AL nL cL :: .map (some mw) :: a.map (.int .i64 ·)

/-- prizes that are looked at, in memory -/
def Op (w : World) (b : Nat) (men : List Wi) (list : List Zi) : Prop :=
  ∃ AM cM bM oM AL cL bL oL mw, w.heap[b]? = some (.cells (pzCells AM men.length cM AL list.length cL mw (atL men)).toArray 80 (0, 0)) ∧ w.heap[mw]? = some whoObj ∧
    SlP encW 4 w AM cM bM oM men ∧ SlP encZ 2 w AL cL bL oL list

structure Valid (men : List Wi) (list : List Zi) : Prop where
  n1 : 1 ≤ men.length
  n8 : men.length ≤ 8
  l6 : list.length ≤ 6
  place : ∀ m ∈ men, 1 ≤ m.place ∧ m.place ≤ men.length
  club : ∀ m ∈ men, 0 ≤ m.club ∧ m.club ≤ 5
  nd : (men.map (·.place)).Nodup
  prize : ∀ z ∈ list, 0 ≤ z.for_ ∧ z.for_ ≤ 4 ∧ 0 ≤ z.worth ∧ z.worth ≤ 1000

theorem Op.fr {w w' : World} {b : Nat} {men : List Wi} {list : List Zi} (h : Op w b men list) (hf : Fr [] w w') : Op w' b men list := by
  obtain ⟨AM, cM, bM, oM, AL, cL, bL, oL, mw, hb, hm, hM, hL⟩ := h
  exact ⟨AM, cM, bM, oM, AL, cL, bL, oL, mw, hf.heap hb (by simp), hf.heap hm (by simp), hM.fr0 hf, hL.fr0 hf⟩

/-- all ploughmen, by their places -/
def ord (men : List Wi) : List Nat := (List.range men.length).map fun (k : Nat) => (atP men ((k : Int) + 1)).toNat

theorem ord_length (men : List Wi) : (ord men).length = men.length := by simp [ord]

theorem findIdx_place {men : List Wi} {p : Int} {i : Nat} (h : men.findIdx? (fun m => m.place = p) = some i) : ∃ m, men[i]? = some m ∧ m.place = p := by
  rw [List.findIdx?_eq_some_iff_getElem] at h
  obtain ⟨hlt, h1, _⟩ := h
  exact ⟨men[i], List.getElem?_eq_getElem hlt, by simpa using h1⟩

theorem nodup_bound : ∀ (n : Nat) (l : List Int), l.Nodup → (∀ x ∈ l, 1 ≤ x ∧ x ≤ n) → l.length ≤ n
  | 0, l, _, h => by
    cases l with
    | nil => simp
    | cons x r => have := h x (by simp); omega
  | n + 1, l, hn, h => by
    by_cases hm : ((n + 1 : Nat) : Int) ∈ l
    · have h1 := nodup_bound n (l.erase ((n + 1 : Nat) : Int)) (hn.erase _) (fun x hx => by
        rw [hn.mem_erase_iff] at hx
        have := h x hx.2
        have := hx.1
        omega)
      rw [List.length_erase_of_mem hm] at h1
      omega
    · have h1 := nodup_bound n l hn (fun x hx => by
        have := h x hx
        have : x ≠ ((n + 1 : Nat) : Int) := fun e => hm (e ▸ hx)
        omega)
      omega

/-- each place is somebody's -/
theorem Valid.hasPlace {men : List Wi} {list : List Zi} (hv : Valid men list) {p : Int} (h1 : 1 ≤ p) (h2 : p ≤ men.length) : ∃ i m, atP men p = (i : Nat) ∧ men[i]? = some m ∧ m.place = p := by
  have hex : ∃ m ∈ men, m.place = p := by
    refine Classical.byContradiction fun hno => ?_
    have hno' : p ∉ men.map (·.place) := fun h => by
      obtain ⟨m, hm, e⟩ := List.mem_map.1 h
      exact hno ⟨m, hm, e⟩
    have hb := nodup_bound men.length (p :: men.map (·.place)) (List.nodup_cons.2 ⟨hno', hv.nd⟩) (fun x hx => by
      rcases List.mem_cons.1 hx with rfl | hx
      · exact ⟨h1, h2⟩
      · obtain ⟨m, hm, rfl⟩ := List.mem_map.1 hx
        exact hv.place m hm)
    simp only [List.length_cons, List.length_map] at hb
    omega
  obtain ⟨m, hm, e⟩ := hex
  cases hf : men.findIdx? (fun m => m.place = p) with
  | none =>
    rw [List.findIdx?_eq_none_iff] at hf
    have := hf m hm
    simp [e] at this
  | some i =>
    obtain ⟨m', h3, h4⟩ := findIdx_place hf
    exact ⟨i, m', by simp [atP, hf], h3, h4⟩

theorem Valid.ord_at {men : List Wi} {list : List Zi} (hv : Valid men list) {k : Nat} (hk : k < men.length) : ∃ m mi, (ord men)[k]? = some m ∧ atP men ((k : Int) + 1) = (m : Nat) ∧ m < men.length ∧ men[m]? = some mi ∧ mi.place = (k : Int) + 1 := by
  obtain ⟨i, mi, h1, h2, h3⟩ := hv.hasPlace (p := (k : Int) + 1) (by omega) (by omega)
  refine ⟨i, mi, ?_, h1, (List.getElem?_eq_some_iff.1 h2).1, h2, h3⟩
  simp [ord, hk, h1]

theorem pz_at (AM : Option Addr) (nM cM : Nat) (AL : Option Addr) (nL cL mw : Nat) (men : List Wi) {k : Nat} (hk : k < 9) : (pzCells AM nM cM AL nL cL mw (atL men)).toArray[3 + k]? = some (.int .i64 (atP men k)) := by
  rcases k with _ | _ | _ | _ | _ | _ | _ | _ | _ | k
  all_goals first | rfl | omega

theorem who_find {f : Int} (h : 0 ≤ f ∧ f ≤ 4) : Instr.findNow (.int .i64) (.int .i64 f) (#[⟨.int .i64 0, .func (.func 62) #[] #[], 0⟩, ⟨.int .i64 1, .func (.func 63) #[] #[], 1⟩, ⟨.int .i64 2, .func (.func 64) #[] #[], 2⟩, ⟨.int .i64 3, .func (.func 65) #[] #[], 3⟩, ⟨.int .i64 4, .func (.func 66) #[] #[], 4⟩] : Array MapEntry).toList 0 = some (some (f.toNat, .func (.func (62 + f.toNat)) #[] #[])) := by
  obtain ⟨n, rfl⟩ := Int.eq_ofNat_of_zero_le h.1
  have hn : n ≤ 4 := by omega
  rcases n with _ | _ | _ | _ | _ | n
  all_goals first | rfl | omega
theorem who_not {f : Int} (h : ¬ (0 ≤ f ∧ f ≤ 4)) : Instr.findNow (.int .i64) (.int .i64 f) (#[⟨.int .i64 0, .func (.func 62) #[] #[], 0⟩, ⟨.int .i64 1, .func (.func 63) #[] #[], 1⟩, ⟨.int .i64 2, .func (.func 64) #[] #[], 2⟩, ⟨.int .i64 3, .func (.func 65) #[] #[], 3⟩, ⟨.int .i64 4, .func (.func 66) #[] #[], 4⟩] : Array MapEntry).toList 0 = some none := by
  have h0 : (f == 0) = false := by simp; omega
  have h1 : (f == 1) = false := by simp; omega
  have h2 : (f == 2) = false := by simp; omega
  have h3 : (f == 3) = false := by simp; omega
  have h4 : (f == 4) = false := by simp; omega
  simp [Instr.findNow, Instr.sameNow, h0, h1, h2, h3, h4]

/-- how many of the first k are wanted -/
def cnt (p : Nat → Bool) (l : List Nat) (k : Nat) : Nat := ((l.take k).filter p).length
theorem cnt_zero (p : Nat → Bool) (l : List Nat) : cnt p l 0 = 0 := by simp [cnt]
theorem take_succ_of {l : List Nat} {k m : Nat} (h : l[k]? = some m) : l.take (k + 1) = l.take k ++ [m] := by
  rw [List.take_add_one, h]; rfl
theorem cnt_skip {p : Nat → Bool} {l : List Nat} {k m : Nat} (h : l[k]? = some m) (hp : p m = false) : cnt p l (k + 1) = cnt p l k := by
  simp [cnt, take_succ_of h, hp]
theorem cnt_take {p : Nat → Bool} {l : List Nat} {k m : Nat} (h : l[k]? = some m) (hp : p m = true) : cnt p l (k + 1) = cnt p l k + 1 ∧ (l.filter p)[cnt p l k]? = some m := by
  refine ⟨by simp [cnt, take_succ_of h, hp], ?_⟩
  have e : l = l.take k ++ m :: l.drop (k + 1) := by
    have hlt := (List.getElem?_eq_some_iff.1 h).1
    have h2 := (List.getElem?_eq_some_iff.1 h).2
    rw [← h2, List.getElem_cons_drop, List.take_append_drop]
  have e2 : l.filter p = (l.take k).filter p ++ m :: (l.drop (k + 1)).filter p := by
    conv => lhs; rw [e]
    simp [hp]
  rw [e2]
  simp [cnt]
theorem cnt_all (p : Nat → Bool) (l : List Nat) : cnt p l l.length = (l.filter p).length := by simp [cnt]

def intV (l : List Nat) : List Value := l.map fun (m : Nat) => .int .i64 (m : Int)
theorem intV_at {l : List Nat} {k m : Nat} (h : l[k]? = some m) : (intV l)[k]? = some (.int .i64 (m : Int)) := by simp [intV, h]
theorem intV_len (l : List Nat) : (intV l).length = l.length := by simp [intV]

theorem Op.at {w : World} {b : Nat} {men : List Wi} {list : List Zi} (hO : Op w b men list) (hv : Valid men list) {k : Nat} (hk : k < men.length) :
    ∃ m mi, (ord men)[k]? = some m ∧ w.cell? ⟨b, 4 + k * 1, none⟩ = some (.int .i64 (m : Int)) ∧ m < men.length ∧ men[m]? = some mi ∧ mi.place = (k : Int) + 1 := by
  obtain ⟨m, mi, h1, h2, h3, h4, h5⟩ := hv.ord_at hk
  obtain ⟨AM, cM, bM, oM, AL, cL, bL, oL, mw, hb, hmw, hM, hL⟩ := hO
  refine ⟨m, mi, h1, ?_, h3, h4, h5⟩
  have h8 := hv.n8
  rw [cell_of_row w b _ _ _ _ hb]
  have := pz_at AM men.length cM AL list.length cL mw men (k := k + 1) (by omega)
  rw [show 4 + k * 1 = 3 + (k + 1) by omega, this]
  congr 2

theorem intV_inv {l : List Nat} {k : Nat} {x : Value} (h : (intV l)[k]? = some x) : ∃ m, l[k]? = some m ∧ x = .int .i64 (m : Int) := by
  simp only [intV, List.getElem?_map, Option.map_eq_some_iff] at h
  obtain ⟨m, h1, rfl⟩ := h
  exact ⟨m, h1, rfl⟩
theorem Valid.ord_mem {men : List Wi} {list : List Zi} (hv : Valid men list) {m : Nat} (h : m ∈ ord men) : ∃ mi, m < men.length ∧ men[m]? = some mi := by
  obtain ⟨k, hk⟩ := List.mem_iff_getElem?.1 h
  have hlt : k < men.length := by have := (List.getElem?_eq_some_iff.1 hk).1; rwa [ord_length] at this
  obtain ⟨m', mi, h1, _, h3, h4, _⟩ := hv.ord_at hlt
  rw [hk] at h1
  obtain rfl : m = m' := by simpa using h1
  exact ⟨mi, h3, h4⟩
theorem find_none_succ {l : List Nat} {q : Nat → Bool} {k m : Nat} (h : (l.take k).find? q = none) (hk : l[k]? = some m) (hq : q m = false) : (l.take (k + 1)).find? q = none := by
  rw [take_succ_of hk, List.find?_append, h]; simp [hq]
theorem find_some_of {l : List Nat} {q : Nat → Bool} {k m : Nat} (h : (l.take k).find? q = none) (hk : l[k]? = some m) (hq : q m = true) : l.find? q = some m := by
  have hlt := (List.getElem?_eq_some_iff.1 hk).1
  have e : l = l.take k ++ m :: l.drop (k + 1) := by
    have h2 := (List.getElem?_eq_some_iff.1 hk).2
    rw [← h2, List.getElem_cons_drop, List.take_append_drop]
  rw [e, List.find?_append, h]; simp [hq]

def canAt (men : List Wi) (f : Int) (m : Nat) : Bool := match men[m]? with | some mi => canW f mi | none => false
theorem canAt_eq {men : List Wi} {f : Int} {m : Nat} {mi : Wi} (h : men[m]? = some mi) : canAt men f m = canW f mi := by simp [canAt, h]
def orNone : Option Nat → Int
  | some m => (m : Int)
  | none => -1
/-- who of those that are left gets it -/
def givesP (men : List Wi) (p : Nat → Bool) (f : Int) : Option Nat := ((ord men).filter p).find? (canAt men f)
def inClub (men : List Wi) (c : Int) (m : Nat) : Bool := match men[m]? with | some mi => decide (mi.club = c) | none => false
def givesC (men : List Wi) (best : Int × Int) (p : Nat → Bool) (f : Int) : Option Nat :=
  if f ≠ 4 then givesP men p f else if best = (0, 0) then none else givesP men (fun m => p m && inClub men best.1 m) f

/-- a set in memory -/
def Hs (h : Nat) (s : Int → Bool) (w : World) : Prop := ∃ f, (∃ o, w.heap[h]? = some o ∧ Mp f o) ∧ ∀ n, (f n).getD (.bool false) = .bool (s n)
theorem Hs.fr {h : Nat} {s : Int → Bool} {S : List Nat} {w w' : World} (hh : Hs h s w) (hf : Fr S w w') (hS : h ∉ S) : Hs h s w' := by
  obtain ⟨f, ⟨o, h1, h2⟩, h3⟩ := hh
  exact ⟨f, ⟨o, hf.heap h1 hS, h2⟩, h3⟩

/-! ### clubs -/
def encC (x : Int × Int) : List Value := [.int .i64 x.1, .int .i64 x.2]
/-- the first with the least sum -/
def stC (xs : List (Int × Int)) : Option (Int × Int) := xs.foldl (fun acc y => match acc with | none => some y | some b => if y.2 < b.2 then some y else some b) none
theorem stC_snoc (xs : List (Int × Int)) (y : Int × Int) : stC (xs ++ [y]) = match stC xs with | none => some y | some b => if y.2 < b.2 then some y else some b := by
  simp [stC, List.foldl_append]
theorem stC_none {xs : List (Int × Int)} : stC xs = none ↔ xs = [] := by
  rcases List.eq_nil_or_concat xs with rfl | ⟨l, y, rfl⟩
  · simp [stC]
  · rw [List.concat_eq_append, stC_snoc]
    constructor
    · intro h
      split at h
      · cases h
      · split at h <;> cases h
    · intro h; simp at h
def placeAt (men : List Wi) (m : Nat) : Int := match men[m]? with | some mi => mi.place | none => 0
def placesOf (men : List Wi) (c : Int) : List Int := ((ord men).filter (inClub men c)).map (placeAt men)
def clubSum (men : List Wi) (c : Int) : Option Int :=
  match placesOf men c with
  | [] => none
  | [a] => some (a + men.length + 1)
  | a :: b :: _ => some (a + b)
def clubsTo (men : List Wi) (k : Nat) : List (Int × Int) := (List.range k).filterMap fun (c : Nat) => (clubSum men ((c : Int) + 1)).map fun s => ((c : Int) + 1, s)
def bestP (men : List Wi) : Int × Int := (stC (clubsTo men 5)).getD (0, 0)
theorem clubsTo_succ (men : List Wi) (k : Nat) : clubsTo men (k + 1) = clubsTo men k ++ ((clubSum men ((k : Int) + 1)).map fun s => ((k : Int) + 1, s)).toList := by
  unfold clubsTo
  rw [List.range_succ, List.filterMap_append]
  congr 1
theorem clubsTo_len (men : List Wi) (k : Nat) : (clubsTo men k).length ≤ k := by
  have := List.length_filterMap_le (fun (c : Nat) => (clubSum men ((c : Int) + 1)).map fun s => ((c : Int) + 1, s)) (List.range k)
  simpa [clubsTo] using this
theorem sum_take_succ {xs : List Int} {k : Nat} {x : Int} (h : xs[k]? = some x) : (xs.take (k + 1)).sum = (xs.take k).sum + x := by
  rw [List.take_add_one, h]
  simp
theorem sum_bound (c : Int) (hc : 0 ≤ c) : ∀ (xs : List Int) (h : ∀ x ∈ xs, 0 ≤ x ∧ x ≤ c), 0 ≤ xs.sum ∧ xs.sum ≤ c * xs.length
  | [], _ => by simp
  | x :: r, h => by
    have h1 := sum_bound c hc r (fun y hy => h y (by simp [hy]))
    have h2 := h x (by simp)
    simp only [List.sum_cons, List.length_cons]
    rw [show c * ((r.length + 1 : Nat) : Int) = c * r.length + c by rw [Int.natCast_add, Int.mul_add]; simp]
    omega
theorem placesOf_mem {men : List Wi} {list : List Zi} (hv : Valid men list) {c p : Int} (h : p ∈ placesOf men c) : 1 ≤ p ∧ p ≤ 8 := by
  obtain ⟨m, hm, rfl⟩ := List.mem_map.1 h
  obtain ⟨mi, h1, h2⟩ := hv.ord_mem (List.mem_filter.1 hm).1
  have := hv.place mi (List.mem_of_getElem? h2)
  have := hv.n8
  simp only [placeAt, h2]
  omega
theorem placesOf_len {men : List Wi} {list : List Zi} (hv : Valid men list) (c : Int) : (placesOf men c).length ≤ 8 := by
  have := hv.n8
  have h := List.length_filter_le (inClub men c) (ord men)
  rw [ord_length] at h
  simp only [placesOf, List.length_map]
  omega

theorem flat_encI (xs : List Int) : xs.flatMap encI = xs.map (.int .i64 ·) := by
  induction xs with
  | nil => rfl
  | cons x r ih => simp [List.flatMap_cons, encI, ih]

/-! ### the due giving -/
def hasI (acc : List (Option Nat)) (n : Int) : Bool := acc.any fun o => match o with | some m => decide ((m : Int) = n) | none => false
def dueL (men : List Wi) (list : List Zi) : List (Option Nat) := list.foldl (fun acc z => acc ++ [givesC men (bestP men) (fun m => !hasI acc (m : Int)) z.for_]) []
theorem dueL_succ {men : List Wi} {list : List Zi} {k : Nat} {z : Zi} (h : list[k]? = some z) : dueL men (list.take (k + 1)) = dueL men (list.take k) ++ [givesC men (bestP men) (fun m => !hasI (dueL men (list.take k)) (m : Int)) z.for_] := by
  unfold dueL
  rw [List.take_add_one, h, Option.toList_some, List.foldl_append]
  rfl
theorem dueL_len (men : List Wi) (list : List Zi) : (dueL men list).length = list.length := by
  rw [← List.take_length (l := list)]
  generalize hk : list.length = k
  have key : ∀ k, k ≤ list.length → (dueL men (list.take k)).length = k := by
    intro k
    induction k with
    | zero => intro _; simp [dueL]
    | succ k ih =>
      intro h
      rw [dueL_succ (List.getElem?_eq_getElem (by omega)), List.length_append, ih (by omega)]
      rfl
  rw [key k (by omega), List.length_take]
  omega
theorem hasI_snoc (acc : List (Option Nat)) (o : Option Nat) (n : Int) : hasI (acc ++ [o]) n = (hasI acc n || match o with | some m => decide ((m : Int) = n) | none => false) := by simp [hasI]
def encO (o : Option Nat) : List Value := [.int .i64 (orNone o)]

theorem flat_encO (xs : List (Option Nat)) : xs.flatMap encO = xs.map fun o => .int .i64 (orNone o) := by
  induction xs with
  | nil => rfl
  | cons x r ih => simp [List.flatMap_cons, encO, ih]
theorem hasI_neg (acc : List (Option Nat)) (n : Int) (h : n < 0) : hasI acc n = false := by
  simp only [hasI, List.any_eq_false]
  intro o _
  cases o with
  | none => simp
  | some m => simp; omega
structure GivOK (men : List Wi) (list : List Zi) (gv : List (Option Nat)) : Prop where
  len : gv.length = list.length
  lt : ∀ m, some m ∈ gv → m < men.length
  nd : ∀ (k : Nat) (m : Nat), gv[k]? = some (some m) → hasI (gv.take k) (m : Int) = false

def worthsTo (n : Nat) (list : List Zi) (gv : List (Option Nat)) (k : Nat) : List Int :=
  (List.range k).foldl (fun acc i => match gv[i]?, list[i]? with | some (some m), some z => acc.set m z.worth | _, _ => acc) (List.replicate n 0)
theorem worthsTo_succ (n : Nat) (list : List Zi) (gv : List (Option Nat)) (k : Nat) : worthsTo n list gv (k + 1) = match gv[k]?, list[k]? with | some (some m), some z => (worthsTo n list gv k).set m z.worth | _, _ => worthsTo n list gv k := by
  simp [worthsTo, List.range_succ, List.foldl_append]
theorem worthsTo_len (n : Nat) (list : List Zi) (gv : List (Option Nat)) (k : Nat) : (worthsTo n list gv k).length = n := by
  induction k with
  | zero => simp [worthsTo]
  | succ k ih =>
    rw [worthsTo_succ]
    split <;> simp [ih]
/-- what everybody gets -/
def worthsL (men : List Wi) (list : List Zi) (gv : List (Option Nat)) : List Int := worthsTo men.length list gv gv.length
theorem flat_set (xs : List Int) (m : Nat) (x : Int) : (xs.flatMap encI).set m (.int .i64 x) = (xs.set m x).flatMap encI := by
  rw [flat_encI, flat_encI, List.map_set]
theorem SlP.flatO {w : World} {A : Option Addr} {cap bk off : Nat} {xs : List (Option Nat)} (h : SlP encO 1 w A cap bk off xs) : CellsAt w bk off (xs.flatMap encO) := by
  intro j u hj
  rw [flat_encO, List.getElem?_map] at hj
  cases ho : xs[j]? with
  | none => simp [ho] at hj
  | some o =>
    simp only [ho, Option.map_some, Option.some.injEq] at hj
    have := h.cell j o ho 0 u (by simp [encO, hj])
    simpa using this
theorem flat_lenO (xs : List (Option Nat)) : (xs.flatMap encO).length = xs.length := by rw [flat_encO]; simp
theorem flat_lenI (xs : List Int) : (xs.flatMap encI).length = xs.length := by rw [flat_encI]; simp

/-! ### what 'open' looks at -/
structure MenOK (n : Nat) (pre : List Wi) : Prop where
  place : ∀ m ∈ pre, 1 ≤ m.place ∧ m.place ≤ n
  club : ∀ m ∈ pre, 0 ≤ m.club ∧ m.club ≤ 5
  nd : (pre.map (·.place)).Nodup
theorem MenOK.nil (n : Nat) : MenOK n [] := ⟨by simp, by simp, by simp⟩
theorem atP_none {pre : List Wi} {p : Int} : atP pre p = -1 ↔ ∀ m ∈ pre, m.place ≠ p := by
  unfold atP
  cases h : pre.findIdx? (fun m => m.place = p) with
  | none => rw [List.findIdx?_eq_none_iff] at h; simpa using h
  | some i =>
    obtain ⟨m, h1, h2⟩ := findIdx_place h
    constructor
    · intro h3; simp only at h3; omega
    · intro h3; exact absurd h2 (h3 m (List.mem_of_getElem? h1))
theorem MenOK.snoc {n : Nat} {pre : List Wi} {m : Wi} (h : MenOK n pre) (h1 : 1 ≤ m.place ∧ m.place ≤ n) (h2 : atP pre m.place = -1) (h3 : 0 ≤ m.club ∧ m.club ≤ 5) : MenOK n (pre ++ [m]) := by
  refine ⟨?_, ?_, ?_⟩
  · intro x hx
    rcases List.mem_append.1 hx with hx | hx
    · exact h.place x hx
    · obtain rfl : x = m := by simpa using hx
      exact h1
  · intro x hx
    rcases List.mem_append.1 hx with hx | hx
    · exact h.club x hx
    · obtain rfl : x = m := by simpa using hx
      exact h3
  · rw [List.map_append, List.nodup_append]
    refine ⟨h.nd, by simp, ?_⟩
    intro a ha b hb e
    obtain ⟨x, hx, rfl⟩ := List.mem_map.1 ha
    simp only [List.map_cons, List.map_nil, List.mem_singleton] at hb
    exact atP_none.1 h2 x hx (e.trans hb)
theorem atP_snoc (pre : List Wi) (m : Wi) (q : Int) (h : atP pre m.place = -1) : atP (pre ++ [m]) q = if q = m.place then (pre.length : Int) else atP pre q := by
  unfold atP
  rw [List.findIdx?_append]
  by_cases hq : q = m.place
  · subst hq
    have : pre.findIdx? (fun x => x.place = m.place) = none := by
      rw [List.findIdx?_eq_none_iff]
      intro x hx
      simpa using atP_none.1 h x hx
    rw [this]
    simp [List.findIdx?_cons]
  · have hq2 : ¬ m.place = q := fun e => hq e.symm
    rw [if_neg hq]
    cases pre.findIdx? (fun x => x.place = q) <;> simp [List.findIdx?_cons, hq2]
theorem atL_snoc (pre : List Wi) (m : Wi) (p : Nat) (hm : m.place = p) (hp : p < 9) (h : atP pre (p : Int) = -1) : atL (pre ++ [m]) = (atL pre).set p (pre.length : Int) := by
  have e : ∀ q : Int, atP (pre ++ [m]) q = if q = (p : Int) then (pre.length : Int) else atP pre q := fun q => by rw [atP_snoc pre m q (by rw [hm]; exact h), hm]
  unfold atL
  simp only [e]
  rcases p with _ | _ | _ | _ | _ | _ | _ | _ | _ | p
  all_goals first | (exfalso; omega) | simp
theorem pzCells_set (AM : Option Addr) (nM cM : Nat) (AL : Option Addr) (nL cL mw : Nat) (a : List Int) (p : Nat) (x : Int) : (pzCells AM nM cM AL nL cL mw a).set (0 + 3 + p * 1) (.int .i64 x) = pzCells AM nM cM AL nL cL mw (a.set p x) := by
  rw [show 0 + 3 + p * 1 = p + 1 + 1 + 1 by omega]
  simp [pzCells, List.map_set]
theorem atL_length (men : List Wi) : (atL men).length = 9 := rfl
theorem pzCells_length (AM : Option Addr) (nM cM : Nat) (AL : Option Addr) (nL cL mw : Nat) (a : List Int) : (pzCells AM nM cM AL nL cL mw a).length = a.length + 3 := by simp [pzCells]
def atI (k : Nat) : List Int := (List.range 9).map fun i => if i < k then -1 else 0
theorem atI_succ : ∀ k, k < 9 → (atI k).set k (-1) = atI (k + 1) := by decide
theorem atI_len (k : Nat) : (atI k).length = 9 := by simp [atI]
theorem atI_end : atI 9 = atL [] := by decide
theorem who_any (f : Int) : ∃ r, Instr.findNow (.int .i64) (.int .i64 f) (#[⟨.int .i64 0, .func (.func 62) #[] #[], 0⟩, ⟨.int .i64 1, .func (.func 63) #[] #[], 1⟩, ⟨.int .i64 2, .func (.func 64) #[] #[], 2⟩, ⟨.int .i64 3, .func (.func 65) #[] #[], 3⟩, ⟨.int .i64 4, .func (.func 66) #[] #[], 4⟩] : Array MapEntry).toList 0 = some r ∧ r.isSome = decide (0 ≤ f ∧ f ≤ 4) := by
  by_cases h : 0 ≤ f ∧ f ≤ 4
  · exact ⟨_, who_find h, by simp [h]⟩
  · exact ⟨_, who_not h, by simp only [h, decide_false]; rfl⟩
theorem MenOK.sub {n : Nat} {l l' : List Wi} (h : MenOK n l) (hs : l'.Sublist l) : MenOK n l' :=
  ⟨fun m hm => h.place m (hs.subset hm), fun m hm => h.club m (hs.subset hm), (hs.map _).nodup h.nd⟩
theorem Valid.men {men : List Wi} {list : List Zi} (hv : Valid men list) : MenOK men.length men := ⟨hv.place, hv.club, hv.nd⟩

theorem orNone_inj {a b : Option Nat} : orNone a = orNone b ↔ a = b := by
  cases a <;> cases b <;> simp [orNone] <;> omega
/-- the first that differ -/
def firstD (due gv : List (Option Nat)) : Option Nat := (List.range due.length).find? fun i => decide (gv[i]? ≠ due[i]?)
theorem range_at {n k : Nat} (h : k < n) : (List.range n)[k]? = some k := by simp [h]
theorem flatO_at {xs : List (Option Nat)} {k : Nat} {o : Option Nat} (h : xs[k]? = some o) : (xs.flatMap encO)[k]? = some (.int .i64 (orNone o)) := by rw [flat_encO]; simp [h]
theorem flatI_at {xs : List Int} {k : Nat} {o : Int} (h : xs[k]? = some o) : (xs.flatMap encI)[k]? = some (.int .i64 o) := by rw [flat_encI]; simp [h]
def fairL (men : List Wi) (list : List Zi) (gv : List (Option Nat)) : Prop := ∀ (i m : Nat) (z : Zi), gv[i]? = some (some m) → list[i]? = some z → canAt men z.for_ m = true
theorem worthsTo_mem {men : List Wi} {list : List Zi} (hv : Valid men list) (n : Nat) (gv : List (Option Nat)) (k : Nat) : ∀ x ∈ worthsTo n list gv k, 0 ≤ x ∧ x ≤ 1000 := by
  induction k with
  | zero => intro x hx; simp [worthsTo] at hx; omega
  | succ k ih =>
    intro x hx
    rw [worthsTo_succ] at hx
    split at hx
    · rename_i m z _ hz
      rcases List.mem_or_eq_of_mem_set hx with h | h
      · exact ih x h
      · have := hv.prize z (List.mem_of_getElem? hz); omega
    · exact ih x hx
end Go.Proofs.Pz
end
section
namespace Go.Proofs.Pz
open Go.Sx Go.RowKit
set_option linter.unusedVariables false
theorem mixed : Try.prog.follows .mixedOrders = true := by kernel_rfl
theorem fa25_0 (a : Addr) (w : World) : (Instr.fieldAt 25 (.pointer (some a)) 0).run Try.prog w = .ok (.pointer (some (a.add 0))) w := by simp [go_sem]
theorem fa80_0 (a : Addr) (w : World) : (Instr.fieldAt 80 (.pointer (some a)) 0).run Try.prog w = .ok (.pointer (some (a.add 0))) w := by simp [go_sem]
theorem fa93_0 (a : Addr) (w : World) : (Instr.fieldAt 93 (.pointer (some a)) 0).run Try.prog w = .ok (.pointer (some (a.add 0))) w := by simp [go_sem]
theorem within (n lo hi : Int) (w : World) : Calls Try.prog 52 #[.int .i64 n, .int .i64 lo, .int .i64 hi] w (Ret w fun v _ => v = .bool (decide (lo ≤ n ∧ n ≤ hi))) := by
  refine enter (args := [.int .i64 n, .int .i64 lo, .int .i64 hi]) (S := []) Try.func52 rfl Try.ntmps52 rfl fun cs T H => ?_
  refine At.seq ?_
  refine At.region' (l := [0]) rfl ?_
  refine At.v H rfl (wN rfl) rfl rfl rfl (x_assign evC) ?_; clear H; intro T H
  refine At.regionEnd ?_
  refine At.seq ?_
  refine At.region' (l := [0, 1, 2, 3, 4, 5, 6, 7, 8]) rfl ?_
  refine At.v H rfl (wN rfl) rfl rfl rfl (x_move (H.r 1 rfl)) ?_; clear H; intro T H
  refine At.v H rfl (wN rfl) rfl rfl rfl (x_move (H.r 0 rfl)) ?_; clear H; intro T H
  refine At.c H rfl (wN rfl) rfl rfl rfl (x_leq (H.r 7 rfl) (H.r 8 rfl)) ?_ ?_
  · clear H; intro h9 T H
    refine At.v H rfl (wN rfl) rfl rfl rfl (x_move (H.r 9 rfl)) ?_; clear H; intro T H
    refine At.v H rfl (wS H rfl rfl rfl) rfl rfl rfl (x_move (H.r 0 rfl)) ?_; clear H; intro T H
    refine At.v H rfl (wS H rfl rfl rfl) rfl rfl rfl (x_move (H.r 2 rfl)) ?_; clear H; intro T H
    refine At.v H rfl (wS H rfl rfl rfl) rfl rfl rfl (x_leq (H.r 11 rfl) (H.r 12 rfl)) ?_; clear H; intro T H
    refine At.v H rfl (wN rfl) rfl rfl rfl (x_pickT (H.r 10 rfl) (H.r 13 rfl)) ?_; clear H; intro T H
    refine At.v H rfl (wN rfl) rfl rfl rfl (x_assign (H.r 14 rfl)) ?_; clear H; intro T H
    refine At.regionEnd ?_
    refine At.ret rfl ?_
    exact lea Try.func52 (res1 Try.results52 (H.r 6 rfl)) (Ret.mk H.fr (by simp [*]))
  · clear H; intro h9 T H
    refine At.v H rfl (wN rfl) rfl rfl rfl (x_move (H.r 9 rfl)) ?_; clear H; intro T H
    refine At.u H rfl (wU H rfl rfl rfl rfl) rfl rfl ?_; clear H; intro T H
    refine At.u H rfl (wU H rfl rfl rfl rfl) rfl rfl ?_; clear H; intro T H
    refine At.u H rfl (wU H rfl rfl rfl rfl) rfl rfl ?_; clear H; intro T H
    refine At.v H rfl (wN rfl) rfl rfl rfl (x_pickF (H.r 10 rfl) evC) ?_; clear H; intro T H
    refine At.v H rfl (wN rfl) rfl rfl rfl (x_assign (H.r 14 rfl)) ?_; clear H; intro T H
    refine At.regionEnd ?_
    refine At.ret rfl ?_
    exact lea Try.func52 (res1 Try.results52 (H.r 6 rfl)) (Ret.mk H.fr (by simp [*]))
theorem must_ok (c : Int) (w : World) : Calls Try.prog 34 #[.bool true, .int .i64 c] w (Ret w fun v _ => v = .tuple #[]) := by
  refine enter (args := [.bool true, .int .i64 c]) (S := []) Try.func34 rfl Try.ntmps34 rfl fun cs T H => ?_
  refine At.seq ?_
  refine At.region' (l := [0, 1]) rfl ?_
  refine At.v H rfl (wN rfl) rfl rfl rfl (x_move (H.r 0 rfl)) ?_; clear H; intro T H
  refine At.v H rfl (wN rfl) rfl rfl rfl (x_not (H.r 4 rfl)) ?_; clear H; intro T H
  refine At.regionEnd ?_
  refine At.condB (H.r 5 rfl) ?_ ?_
  · intro hc0
    cases hc0
  · intro hc0
    refine At.skip ?_
    refine At.fin rfl ?_
    exact lea Try.func34 (res0 Try.results34) (Ret.mk H.fr rfl)
/-- what a panic tells -/
def fail (c : Int) : Value := .iface 93 (.agg #[.int .i64 c])
theorem must_no (c : Int) (w : World) : Calls Try.prog 34 #[.bool false, .int .i64 c] w (Pans w (fail c)) := by
  refine enter (args := [.bool false, .int .i64 c]) (S := []) Try.func34 rfl Try.ntmps34 rfl fun cs T H => ?_
  refine At.seq ?_
  refine At.region' (l := [0, 1]) rfl ?_
  refine At.v H rfl (wN rfl) rfl rfl rfl (x_move (H.r 0 rfl)) ?_; clear H; intro T H
  refine At.v H rfl (wN rfl) rfl rfl rfl (x_not (H.r 4 rfl)) ?_; clear H; intro T H
  refine At.regionEnd ?_
  refine At.condB (H.r 5 rfl) ?_ ?_
  · intro hc0
    refine At.region' (l := [0, 1, 2, 3]) rfl ?_
    refine At.v H rfl (wN rfl) rfl rfl rfl (x_move (H.r 1 rfl)) ?_; clear H; intro T H
    refine At.v (v := ?v7_1) H rfl (wN rfl) rfl rfl rfl (x_build1 (H.r 6 rfl) ?r7_1) ?_
    case r7_1 => (simp [go_sem]; rfl)
    clear H; intro T H
    refine At.v H rfl (wN rfl) rfl rfl rfl (x_makeIface (H.r 7 rfl) Try.runUnderlying93 (by intro _ h; cases h)) ?_; clear H; intro T H
    refine At.panic rfl (wN rfl) rfl (x_panic (H.r 8 rfl)) ?_
    exact pan Try.func34 ⟨rfl, H.fr⟩
  · intro hc0
    cases hc0
theorem must_any (c : Bool) (n : Int) (w : World) : (c = true → Calls Try.prog 34 #[.bool c, .int .i64 n] w (Ret w fun v _ => v = .tuple #[])) ∧ (c = false → Calls Try.prog 34 #[.bool c, .int .i64 n] w (Pans w (fail n))) :=
  ⟨fun h => by subst h; exact must_ok n w, fun h => by subst h; exact must_no n w⟩
theorem told_ret (b : Nat) (v : Value) (w : World) : DefC Try.prog 30 #[.pointer (some ⟨b, 0, none⟩)] .returning w (fun u w' => u = .returning ∧ Fr [] w w') := by
  refine enterD (args := [.pointer (some ⟨b, 0, none⟩)]) (S := []) (G := []) Try.func30 rfl Try.ntmps30 rfl (by simp) (by simp) (by simp) fun c₀ cs T hu H => ?_
  refine At.seq ?_
  refine At.region' (l := [0]) rfl ?_
  refine At.rec0 H rfl rfl rfl (wN rfl) rfl rfl rfl hu x_recover ?_; clear H; intro T H
  refine At.regionEnd ?_
  refine At.block ?_
  refine At.seq ?_
  refine At.region' (l := [0]) rfl ?_
  refine At.v H rfl (wN rfl) rfl rfl rfl (x_eqNilT (H.r 5 rfl) evC Try.runUnderlying20) ?_; clear H; intro T H
  refine At.regionEnd ?_
  refine At.condT (H.r 7 rfl) ?_
  refine At.region' (l := [0]) rfl ?_
  refine At.v H rfl (wN rfl) rfl rfl rfl (x_assign (H.r 5 rfl)) ?_; clear H; intro T H
  refine At.regionEnd ?_
  refine At.inBlock ?_
  refine At.fin rfl ?_
  exact leaD Try.func30 (res0 Try.results30) hu rfl ⟨rfl, H.fr⟩
theorem told_pan (b : Nat) (c : Int) (v : Value) (w : World) (hb : w.heap[b]? = some (.cells #[v] 32 (0, 0))) : DefC Try.prog 30 #[.pointer (some ⟨b, 0, none⟩)] (.panicking [{ v := fail c, recovered := false }]) w
    (fun u w' => u = .returning ∧ Fr [b] w w' ∧ w'.heap[b]? = some (.cells #[.int .i64 c] 32 (0, 0))) := by
  refine enterD (args := [.pointer (some ⟨b, 0, none⟩)]) (S := [b]) (G := [.blk b (Eo (.cells [v].toArray 32 (0, 0)))]) Try.func30 rfl Try.ntmps30 rfl (by simp [Ent.holds, hb, Eo]) (by simp [Ent.keys]) (by simp [Ent.keys]) fun c₀ cs T hu H => ?_
  refine At.seq ?_
  refine At.region' (l := [0]) rfl ?_
  refine At.rec1 H rfl rfl rfl (wN rfl) rfl rfl rfl hu x_recover ?_; clear H; intro T H
  refine At.regionEnd ?_
  refine At.block ?_
  refine At.seq ?_
  refine At.region' (l := [0]) rfl ?_
  refine At.v H rfl (wN rfl) rfl rfl rfl (x_eqNilF (H.r 5 rfl) evC Try.runUnderlying20) ?_; clear H; intro T H
  refine At.regionEnd ?_
  refine At.condF (H.r 7 rfl) ?_
  refine At.seq ?_
  refine At.region' (l := [0, 1, 2]) rfl ?_
  refine At.v H rfl (wN rfl) rfl rfl rfl (x_ta (H.r 5 rfl) Try.runUnderlying93 (by intro _ h; cases h)) ?_; clear H; intro T H
  refine At.v H rfl (wN rfl) rfl rfl rfl (x_extract (H.r 8 rfl) rfl) ?_; clear H; intro T H
  refine At.v H rfl (wN rfl) rfl rfl rfl (x_extract (H.r 8 rfl) rfl) ?_; clear H; intro T H
  refine At.regionEnd ?_
  refine At.condT (H.r 9 rfl) ?_
  refine At.seq ?_
  refine At.region' (l := [0, 1]) rfl ?_
  refine At.new H rfl (wN rfl) rfl rfl rfl (x_alloc Try.zeroValue93 rfl) ?_; clear H; intro b3 T w _ _ H
  refine At.storeA H rfl (wN rfl) rfl rfl (H.r 3 rfl) (H.r 10 rfl) Try.sizeOf93 (List.all_eq_true.1 rfl) (by repeat (first | exact Upd.here | apply Upd.there)) (by rfl) ?_; clear H; intro T w _ H
  refine At.regionEnd ?_
  refine At.region' (l := [0, 1, 2, 3, 4]) rfl ?_
  refine At.v H rfl (wN rfl) rfl rfl rfl (x_move (H.r 0 rfl)) ?_; clear H; intro T H
  refine At.v H rfl (wN rfl) rfl rfl rfl (x_fieldAddr (H.r 3 rfl) fa93_0) ?_; clear H; intro T H
  refine At.v H rfl (wN rfl) rfl rfl rfl (x_load (H.r 12 rfl) Try.isAgg32 (by first | exact H.cell (by repeat (first | exact List.mem_cons_self | apply List.mem_cons_of_mem)) _ rfl | exact H.cellR (by repeat (first | exact List.mem_cons_self | apply List.mem_cons_of_mem)) _ rfl)) ?_; clear H; intro T H
  refine At.v H rfl (wN rfl) rfl rfl rfl (x_nil (H.r 11 rfl)) ?_; clear H; intro T H
  refine At.store1 H rfl (wN rfl) rfl rfl (H.r 14 rfl) (H.r 13 rfl) Try.sizeOf32 rfl rfl (by repeat (first | exact Upd.here | apply Upd.there)) (by repeat (first | exact SetAt.z | apply SetAt.s)) ?_; clear H; intro T w _ H
  refine At.regionEnd ?_
  refine At.inBlock ?_
  refine At.fin rfl ?_
  exact leaD' Try.func30 (res0 Try.results30) rfl ⟨rfl, H.fr, H.heap (by repeat (first | exact List.mem_cons_self | apply List.mem_cons_of_mem))⟩
theorem who (w : World) : Calls Try.prog 51 #[] w (RetG w fun v E _ => ∃ b, v = .map (some b) ∧ E = [.blk b (Eo whoObj)]) := by
  refine enter (args := []) (S := []) Try.func51 rfl Try.ntmps51 rfl fun cs T H => ?_
  refine At.seq ?_
  refine At.region' (l := [0]) rfl ?_
  refine At.v H rfl (wN rfl) rfl rfl rfl (x_assign evC) ?_; clear H; intro T H
  refine At.regionEnd ?_
  refine At.seq ?_
  refine At.region' (l := [0, 1, 2, 3, 4, 5, 6, 7]) rfl ?_
  refine At.newObj (f := fun n => .map (some n)) H rfl (wN rfl) rfl rfl rfl x_makeMap ?_; clear H; intro b1 T w _ _ H
  refine At.mapSet H rfl (wN rfl) (.inr rfl) rfl (H.r 1 rfl) evC evF Try.runUnderlying77 Try.runUnderlying3 (by repeat (first | exact Upd.here | apply Upd.there)) rfl rfl (by intro i u h; cases h) ?_; clear H; intro T w _ H
  refine At.mapSet H rfl (wN rfl) (.inr rfl) rfl (H.r 1 rfl) evC evF Try.runUnderlying77 Try.runUnderlying3 (by repeat (first | exact Upd.here | apply Upd.there)) rfl rfl (by intro i u h; cases h) ?_; clear H; intro T w _ H
  refine At.mapSet H rfl (wN rfl) (.inr rfl) rfl (H.r 1 rfl) evC evF Try.runUnderlying77 Try.runUnderlying3 (by repeat (first | exact Upd.here | apply Upd.there)) rfl rfl (by intro i u h; cases h) ?_; clear H; intro T w _ H
  refine At.mapSet H rfl (wN rfl) (.inr rfl) rfl (H.r 1 rfl) evC evF Try.runUnderlying77 Try.runUnderlying3 (by repeat (first | exact Upd.here | apply Upd.there)) rfl rfl (by intro i u h; cases h) ?_; clear H; intro T w _ H
  refine At.mapSet H rfl (wN rfl) (.inr rfl) rfl (H.r 1 rfl) evC evF Try.runUnderlying77 Try.runUnderlying3 (by repeat (first | exact Upd.here | apply Upd.there)) rfl rfl (by intro i u h; cases h) ?_; clear H; intro T w _ H
  refine At.v H rfl (wN rfl) rfl rfl rfl (x_move (H.r 1 rfl)) ?_; clear H; intro T H
  refine At.v H rfl (wN rfl) rfl rfl rfl (x_assign (H.r 2 rfl)) ?_; clear H; intro T H
  refine At.regionEnd ?_
  refine At.ret rfl ?_
  exact lea Try.func51 (res1 Try.results51 (H.r 0 rfl)) (RetG.of H [.blk b1 (Eo whoObj)] (List.Sublist.refl _) (by simp [Ent.w, Ent.keys]) ⟨b1, rfl, rfl⟩)
theorem isMan {b : Nat} {men : List Wi} {list : List Zi} {w : World} (hO : Op w b men list) (n : Int) (h8 : men.length ≤ 8) : Calls Try.prog 38 #[.pointer (some ⟨b, 0, none⟩), .int .i64 n] w (Ret w fun v _ => v = .bool (decide (0 ≤ n ∧ n ≤ men.length - 1))) := by
  obtain ⟨AM, cM, bM, oM, AL, cL, bL, oL, mw, hb, hm, hM, hL⟩ := hO
  refine enter (args := [.pointer (some ⟨b, 0, none⟩), .int .i64 n]) (S := []) Try.func38 rfl Try.ntmps38 rfl fun cs T H => ?_
  replace H := H.ro hb (by simp)
  refine At.seq ?_
  refine At.region' (l := [0]) rfl ?_
  refine At.v H rfl (wN rfl) rfl rfl rfl (x_assign evC) ?_; clear H; intro T H
  refine At.regionEnd ?_
  refine At.seq ?_
  refine At.region' (l := [0, 1, 2, 3, 4, 5, 6, 7, 8, 9]) rfl ?_
  refine At.v H rfl (wN rfl) rfl rfl rfl (x_move (H.r 1 rfl)) ?_; clear H; intro T H
  refine At.v H rfl (wN rfl) rfl rfl rfl (x_move (H.r 0 rfl)) ?_; clear H; intro T H
  refine At.v H rfl (wN rfl) rfl rfl rfl (x_nil (H.r 6 rfl)) ?_; clear H; intro T H
  refine At.v H rfl (wN rfl) rfl rfl rfl (x_fieldAddr (H.r 7 rfl) fa80_0) ?_; clear H; intro T H
  refine At.v H rfl (wN rfl) rfl rfl rfl (x_fieldAddr (H.r 8 rfl) fa25_0) ?_; clear H; intro T H
  refine At.v H rfl (wN rfl) rfl rfl rfl (x_load (H.r 9 rfl) Try.isAgg22 (by first | exact H.cell (by repeat (first | exact List.mem_cons_self | apply List.mem_cons_of_mem)) _ rfl | exact H.cellR (by repeat (first | exact List.mem_cons_self | apply List.mem_cons_of_mem)) _ rfl)) ?_; clear H; intro T H
  refine At.v H rfl (wN rfl) rfl rfl rfl (x_len (H.r 10 rfl) Try.runUnderlying22) ?_; clear H; intro T H
  refine At.v H rfl (wN rfl) rfl rfl rfl (x_sub (H.r 11 rfl) evC (w64 (by omega) (by omega))) ?_; clear H; intro T H
  refine At.f0 H rfl (wN rfl) rfl rfl rfl (args3 (H.r 5 rfl) evC (H.r 12 rfl)) Try.call52 (within _ _ _ _) ?_; clear H; rintro v13 T w hv13 _ H
  refine At.v H rfl (wN rfl) rfl rfl rfl (x_assign (H.r 13 rfl)) ?_; clear H; intro T H
  refine At.regionEnd ?_
  refine At.ret rfl ?_
  subst hv13
  exact lea Try.func38 (res1 Try.results38 (H.r 4 rfl)) (Ret.mk H.fr rfl)
end Go.Proofs.Pz
end
section
namespace Go.Proofs.Pz
open Go.Sx Go.RowKit
set_option linter.unusedVariables false
namespace A2
theorem fa25_0 (a : Addr) (w : World) : (Instr.fieldAt 25 (.pointer (some a)) 0).run Try.prog w = .ok (.pointer (some (a.add 0))) w := by simp [go_sem]
theorem fa25_1 (a : Addr) (w : World) : (Instr.fieldAt 25 (.pointer (some a)) 1).run Try.prog w = .ok (.pointer (some (a.add 1))) w := by simp [go_sem]
theorem fa42_0 (a : Addr) (w : World) : (Instr.fieldAt 42 (.pointer (some a)) 0).run Try.prog w = .ok (.pointer (some (a.add 0))) w := by simp [go_sem]
theorem fa59_1 (a : Addr) (w : World) : (Instr.fieldAt 59 (.pointer (some a)) 1).run Try.prog w = .ok (.pointer (some (a.add 1))) w := by simp [go_sem]
theorem fa59_2 (a : Addr) (w : World) : (Instr.fieldAt 59 (.pointer (some a)) 2).run Try.prog w = .ok (.pointer (some (a.add 2))) w := by simp [go_sem]
theorem fa59_3 (a : Addr) (w : World) : (Instr.fieldAt 59 (.pointer (some a)) 3).run Try.prog w = .ok (.pointer (some (a.add 3))) w := by simp [go_sem]
theorem fa80_0 (a : Addr) (w : World) : (Instr.fieldAt 80 (.pointer (some a)) 0).run Try.prog w = .ok (.pointer (some (a.add 0))) w := by simp [go_sem]
theorem fa80_1 (a : Addr) (w : World) : (Instr.fieldAt 80 (.pointer (some a)) 1).run Try.prog w = .ok (.pointer (some (a.add 2))) w := by simp [go_sem]
end A2
open A2
theorem isPrize {b : Nat} {men : List Wi} {list : List Zi} {w : World} (hO : Op w b men list) (n : Int) (h6 : list.length ≤ 40) : Calls Try.prog 39 #[.pointer (some ⟨b, 0, none⟩), .int .i64 n] w (Ret w fun v _ => v = .bool (decide (0 ≤ n ∧ n ≤ list.length - 1))) := by
  obtain ⟨AM, cM, bM, oM, AL, cL, bL, oL, mw, hb, hm, hM, hL⟩ := hO
  refine enter (args := [.pointer (some ⟨b, 0, none⟩), .int .i64 n]) (S := []) Try.func39 rfl Try.ntmps39 rfl fun cs T H => ?_
  replace H := H.ro hb (by simp)
  refine At.seq ?_
  refine At.region' (l := [0]) rfl ?_
  refine At.v H rfl (wN rfl) rfl rfl rfl (x_assign evC) ?_; clear H; intro T H
  refine At.regionEnd ?_
  refine At.seq ?_
  refine At.region' (l := [0, 1, 2, 3, 4, 5, 6, 7, 8, 9]) rfl ?_
  refine At.v H rfl (wN rfl) rfl rfl rfl (x_move (H.r 1 rfl)) ?_; clear H; intro T H
  refine At.v H rfl (wN rfl) rfl rfl rfl (x_move (H.r 0 rfl)) ?_; clear H; intro T H
  refine At.v H rfl (wN rfl) rfl rfl rfl (x_nil (H.r 6 rfl)) ?_; clear H; intro T H
  refine At.v H rfl (wN rfl) rfl rfl rfl (x_fieldAddr (H.r 7 rfl) fa80_0) ?_; clear H; intro T H
  refine At.v H rfl (wN rfl) rfl rfl rfl (x_fieldAddr (H.r 8 rfl) fa25_1) ?_; clear H; intro T H
  refine At.v H rfl (wN rfl) rfl rfl rfl (x_load (H.r 9 rfl) Try.isAgg23 (by first | exact H.cell (by repeat (first | exact List.mem_cons_self | apply List.mem_cons_of_mem)) _ rfl | exact H.cellR (by repeat (first | exact List.mem_cons_self | apply List.mem_cons_of_mem)) _ rfl)) ?_; clear H; intro T H
  refine At.v H rfl (wN rfl) rfl rfl rfl (x_len (H.r 10 rfl) Try.runUnderlying23) ?_; clear H; intro T H
  refine At.v H rfl (wN rfl) rfl rfl rfl (x_sub (H.r 11 rfl) evC (w64 (by omega) (by omega))) ?_; clear H; intro T H
  refine At.f0 H rfl (wN rfl) rfl rfl rfl (args3 (H.r 5 rfl) evC (H.r 12 rfl)) Try.call52 (within _ _ _ _) ?_; clear H; rintro v13 T w hv13 _ H
  refine At.v H rfl (wN rfl) rfl rfl rfl (x_assign (H.r 13 rfl)) ?_; clear H; intro T H
  refine At.regionEnd ?_
  refine At.ret rfl ?_
  subst hv13
  exact lea Try.func39 (res1 Try.results39 (H.r 4 rfl)) (Ret.mk H.fr rfl)
theorem who0 (m : Wi) (w : World) : Calls Try.prog 62 #[.agg (encW m).toArray] w (Ret w fun v _ => v = .bool true) := by
  refine enter (args := [.agg (encW m).toArray]) (S := []) Try.func62 rfl Try.ntmps62 rfl fun cs T H => ?_
  refine At.seq ?_
  refine At.region' (l := [0, 1]) rfl ?_
  refine At.new H rfl (wN rfl) rfl rfl rfl (x_box (H.r 0 rfl) rfl) ?_; clear H; intro b1 T w _ _ H
  refine At.v H rfl (wN rfl) rfl rfl rfl (x_assign evC) ?_; clear H; intro T H
  refine At.regionEnd ?_
  refine At.seq ?_
  refine At.region' (l := [0]) rfl ?_
  refine At.v H rfl (wN rfl) rfl rfl rfl (x_assign evC) ?_; clear H; intro T H
  refine At.regionEnd ?_
  refine At.ret rfl ?_
  exact lea Try.func62 (res1 Try.results62 (H.r 2 rfl)) (Ret.mk H.fr rfl)
theorem who1 (m : Wi) (w : World) : Calls Try.prog 63 #[.agg (encW m).toArray] w (Ret w fun v _ => v = .bool m.novice) := by
  refine enter (args := [.agg (encW m).toArray]) (S := []) Try.func63 rfl Try.ntmps63 rfl fun cs T H => ?_
  refine At.seq ?_
  refine At.region' (l := [0, 1]) rfl ?_
  refine At.new H rfl (wN rfl) rfl rfl rfl (x_box (H.r 0 rfl) rfl) ?_; clear H; intro b1 T w _ _ H
  refine At.v H rfl (wN rfl) rfl rfl rfl (x_assign evC) ?_; clear H; intro T H
  refine At.regionEnd ?_
  refine At.seq ?_
  refine At.region' (l := [0, 1, 2]) rfl ?_
  refine At.v H rfl (wN rfl) rfl rfl rfl (x_fieldAddr (H.r 1 rfl) fa59_2) ?_; clear H; intro T H
  refine At.v H rfl (wN rfl) rfl rfl rfl (x_load (H.r 3 rfl) Try.isAgg4 (by first | exact H.cell (by repeat (first | exact List.mem_cons_self | apply List.mem_cons_of_mem)) _ rfl | exact H.cellR (by repeat (first | exact List.mem_cons_self | apply List.mem_cons_of_mem)) _ rfl)) ?_; clear H; intro T H
  refine At.v H rfl (wN rfl) rfl rfl rfl (x_assign (H.r 4 rfl)) ?_; clear H; intro T H
  refine At.regionEnd ?_
  refine At.ret rfl ?_
  exact lea Try.func63 (res1 Try.results63 (H.r 2 rfl)) (Ret.mk H.fr rfl)
theorem who2 (m : Wi) (w : World) : Calls Try.prog 64 #[.agg (encW m).toArray] w (Ret w fun v _ => v = .bool m.horses) := by
  refine enter (args := [.agg (encW m).toArray]) (S := []) Try.func64 rfl Try.ntmps64 rfl fun cs T H => ?_
  refine At.seq ?_
  refine At.region' (l := [0, 1]) rfl ?_
  refine At.new H rfl (wN rfl) rfl rfl rfl (x_box (H.r 0 rfl) rfl) ?_; clear H; intro b1 T w _ _ H
  refine At.v H rfl (wN rfl) rfl rfl rfl (x_assign evC) ?_; clear H; intro T H
  refine At.regionEnd ?_
  refine At.seq ?_
  refine At.region' (l := [0, 1, 2]) rfl ?_
  refine At.v H rfl (wN rfl) rfl rfl rfl (x_fieldAddr (H.r 1 rfl) fa59_3) ?_; clear H; intro T H
  refine At.v H rfl (wN rfl) rfl rfl rfl (x_load (H.r 3 rfl) Try.isAgg4 (by first | exact H.cell (by repeat (first | exact List.mem_cons_self | apply List.mem_cons_of_mem)) _ rfl | exact H.cellR (by repeat (first | exact List.mem_cons_self | apply List.mem_cons_of_mem)) _ rfl)) ?_; clear H; intro T H
  refine At.v H rfl (wN rfl) rfl rfl rfl (x_assign (H.r 4 rfl)) ?_; clear H; intro T H
  refine At.regionEnd ?_
  refine At.ret rfl ?_
  exact lea Try.func64 (res1 Try.results64 (H.r 2 rfl)) (Ret.mk H.fr rfl)
theorem who3t (m : Wi) (w : World) (hn : m.novice = true) : Calls Try.prog 65 #[.agg (encW m).toArray] w (Ret w fun v _ => v = .bool (m.novice && m.horses)) := by
  obtain ⟨_, _, _, _⟩ := m
  simp only at hn
  subst hn
  refine enter (args := [.agg _]) (S := []) Try.func65 rfl Try.ntmps65 rfl fun cs T H => ?_
  refine At.seq ?_
  refine At.region' (l := [0, 1]) rfl ?_
  refine At.new H rfl (wN rfl) rfl rfl rfl (x_box (H.r 0 rfl) rfl) ?_; clear H; intro b1 T w _ _ H
  refine At.v H rfl (wN rfl) rfl rfl rfl (x_assign evC) ?_; clear H; intro T H
  refine At.regionEnd ?_
  refine At.seq ?_
  refine At.region' (l := [0, 1, 2, 3, 4, 5, 6]) rfl ?_
  refine At.v H rfl (wN rfl) rfl rfl rfl (x_fieldAddr (H.r 1 rfl) fa59_2) ?_; clear H; intro T H
  refine At.v H rfl (wN rfl) rfl rfl rfl (x_load (H.r 3 rfl) Try.isAgg4 (by first | exact H.cell (by repeat (first | exact List.mem_cons_self | apply List.mem_cons_of_mem)) _ rfl | exact H.cellR (by repeat (first | exact List.mem_cons_self | apply List.mem_cons_of_mem)) _ rfl)) ?_; clear H; intro T H
  refine At.v H rfl (wN rfl) rfl rfl rfl (x_move (H.r 4 rfl)) ?_; clear H; intro T H
  refine At.v H rfl (wS H rfl rfl rfl) rfl rfl rfl (x_fieldAddr (H.r 1 rfl) fa59_3) ?_; clear H; intro T H
  refine At.v H rfl (wS H rfl rfl rfl) rfl rfl rfl (x_load (H.r 6 rfl) Try.isAgg4 (by first | exact H.cell (by repeat (first | exact List.mem_cons_self | apply List.mem_cons_of_mem)) _ rfl | exact H.cellR (by repeat (first | exact List.mem_cons_self | apply List.mem_cons_of_mem)) _ rfl)) ?_; clear H; intro T H
  refine At.v H rfl (wN rfl) rfl rfl rfl (x_pickT (H.r 5 rfl) (H.r 7 rfl)) ?_; clear H; intro T H
  refine At.v H rfl (wN rfl) rfl rfl rfl (x_assign (H.r 8 rfl)) ?_; clear H; intro T H
  refine At.regionEnd ?_
  refine At.ret rfl ?_
  exact lea Try.func65 (res1 Try.results65 (H.r 2 rfl)) (Ret.mk H.fr rfl)
theorem who3f (m : Wi) (w : World) (hn : m.novice = false) : Calls Try.prog 65 #[.agg (encW m).toArray] w (Ret w fun v _ => v = .bool (m.novice && m.horses)) := by
  obtain ⟨_, _, _, _⟩ := m
  simp only at hn
  subst hn
  refine enter (args := [.agg _]) (S := []) Try.func65 rfl Try.ntmps65 rfl fun cs T H => ?_
  refine At.seq ?_
  refine At.region' (l := [0, 1]) rfl ?_
  refine At.new H rfl (wN rfl) rfl rfl rfl (x_box (H.r 0 rfl) rfl) ?_; clear H; intro b1 T w _ _ H
  refine At.v H rfl (wN rfl) rfl rfl rfl (x_assign evC) ?_; clear H; intro T H
  refine At.regionEnd ?_
  refine At.seq ?_
  refine At.region' (l := [0, 1, 2, 3, 4, 5, 6]) rfl ?_
  refine At.v H rfl (wN rfl) rfl rfl rfl (x_fieldAddr (H.r 1 rfl) fa59_2) ?_; clear H; intro T H
  refine At.v H rfl (wN rfl) rfl rfl rfl (x_load (H.r 3 rfl) Try.isAgg4 (by first | exact H.cell (by repeat (first | exact List.mem_cons_self | apply List.mem_cons_of_mem)) _ rfl | exact H.cellR (by repeat (first | exact List.mem_cons_self | apply List.mem_cons_of_mem)) _ rfl)) ?_; clear H; intro T H
  refine At.v H rfl (wN rfl) rfl rfl rfl (x_move (H.r 4 rfl)) ?_; clear H; intro T H
  refine At.u H rfl (wU H rfl rfl rfl rfl) rfl rfl ?_; clear H; intro T H
  refine At.u H rfl (wU H rfl rfl rfl rfl) rfl rfl ?_; clear H; intro T H
  refine At.v H rfl (wN rfl) rfl rfl rfl (x_pickF (H.r 5 rfl) evC) ?_; clear H; intro T H
  refine At.v H rfl (wN rfl) rfl rfl rfl (x_assign (H.r 8 rfl)) ?_; clear H; intro T H
  refine At.regionEnd ?_
  refine At.ret rfl ?_
  exact lea Try.func65 (res1 Try.results65 (H.r 2 rfl)) (Ret.mk H.fr rfl)
theorem who4 (m : Wi) (w : World) : Calls Try.prog 66 #[.agg (encW m).toArray] w (Ret w fun v _ => v = .bool (decide (m.club ≠ 0))) := by
  refine enter (args := [.agg (encW m).toArray]) (S := []) Try.func66 rfl Try.ntmps66 rfl fun cs T H => ?_
  refine At.seq ?_
  refine At.region' (l := [0, 1]) rfl ?_
  refine At.new H rfl (wN rfl) rfl rfl rfl (x_box (H.r 0 rfl) rfl) ?_; clear H; intro b1 T w _ _ H
  refine At.v H rfl (wN rfl) rfl rfl rfl (x_assign evC) ?_; clear H; intro T H
  refine At.regionEnd ?_
  refine At.seq ?_
  refine At.region' (l := [0, 1, 2, 3]) rfl ?_
  refine At.v H rfl (wN rfl) rfl rfl rfl (x_fieldAddr (H.r 1 rfl) fa59_1) ?_; clear H; intro T H
  refine At.v H rfl (wN rfl) rfl rfl rfl (x_load (H.r 3 rfl) Try.isAgg3 (by first | exact H.cell (by repeat (first | exact List.mem_cons_self | apply List.mem_cons_of_mem)) _ rfl | exact H.cellR (by repeat (first | exact List.mem_cons_self | apply List.mem_cons_of_mem)) _ rfl)) ?_; clear H; intro T H
  refine At.v H rfl (wN rfl) rfl rfl rfl (x_neq (H.r 4 rfl) evC) ?_; clear H; intro T H
  refine At.v H rfl (wN rfl) rfl rfl rfl (x_assign (H.r 5 rfl)) ?_; clear H; intro T H
  refine At.regionEnd ?_
  refine At.ret rfl ?_
  exact lea Try.func66 (res1 Try.results66 (H.r 2 rfl)) (Ret.mk H.fr rfl)
theorem whoC {f : Int} (hf : 0 ≤ f ∧ f ≤ 4) (m : Wi) (w : World) : CallsV Try.prog (.func (.func (62 + f.toNat)) #[] #[]) #[.agg (encW m).toArray] w (Ret w fun v _ => v = .bool (canW f m)) := by
  obtain ⟨n, rfl⟩ := Int.eq_ofNat_of_zero_le hf.1
  have hn : n ≤ 4 := by omega
  rcases n with _ | _ | _ | _ | _ | n
  · exact CallsV.func ⟨_, Try.func62, rfl, rfl⟩ (who0 m w)
  · exact CallsV.func ⟨_, Try.func63, rfl, rfl⟩ (who1 m w)
  · exact CallsV.func ⟨_, Try.func64, rfl, rfl⟩ (who2 m w)
  · refine CallsV.func ⟨_, Try.func65, rfl, rfl⟩ ?_
    cases hm : m.novice
    · simpa [canW, hm] using who3f m w hm
    · simpa [canW, hm] using who3t m w hm
  · exact CallsV.func ⟨_, Try.func66, rfl, rfl⟩ (who4 m w)
  · omega
theorem can {b : Nat} {men : List Wi} {list : List Zi} {w : World} (hO : Op w b men list) (hv : Valid men list) {man prize : Nat} {m : Wi} {z : Zi} (hm : men[man]? = some m) (hz : list[prize]? = some z) :
    Calls Try.prog 35 #[.pointer (some ⟨b, 0, none⟩), .int .i64 (man : Int), .int .i64 (prize : Int)] w (Ret w fun v _ => v = .bool (canW z.for_ m)) := by
  obtain ⟨AM, cM, bM, oM, AL, cL, bL, oL, mw, hb, hmw, hM, hL⟩ := hO
  have hml := (List.getElem?_eq_some_iff.1 hm).1
  have hzl := (List.getElem?_eq_some_iff.1 hz).1
  have hzf := hv.prize z (List.mem_of_getElem? hz)
  have hA := hM.addr (fun e => by simp [e] at hml)
  have hB := hL.addr (fun e => by simp [e] at hzl)
  subst hA hB
  refine enter (args := [.pointer (some ⟨b, 0, none⟩), .int .i64 (man : Int), .int .i64 (prize : Int)]) (S := []) Try.func35 rfl Try.ntmps35 rfl fun cs T H => ?_
  replace H := H.ro hb (by simp)
  refine At.seq ?_
  refine At.region' (l := [0]) rfl ?_
  refine At.v H rfl (wN rfl) rfl rfl rfl (x_assign evC) ?_; clear H; intro T H
  refine At.regionEnd ?_
  refine At.seq ?_
  refine At.drawnC (m := 24) (L := #[false, false, false, false, false, false, false, false, false, false, false, false, false, false, false, false, false, false, false, false, false, false, false, false]) H mixed rfl rfl ?_; clear H; intro w H
  refine GA.v (i := 0) (L' := #[true, false, false, false, false, false, false, false, false, false, false, false, false, false, false, false, false, false, false, false, false, false, false, false]) H rfl (wN rfl) rfl rfl rfl (by kernel_rfl) rfl (fun w H => x_move (H.r 0 rfl)) ?_; clear H; intro T H
  refine GA.v (i := 1) (L' := #[true, true, false, false, false, false, false, false, false, false, false, false, false, false, false, false, false, false, false, false, false, false, false, false]) H rfl (wN rfl) rfl rfl rfl (by kernel_rfl) rfl (fun w H => x_nil (H.r 7 rfl)) ?_; clear H; intro T H
  refine GA.v (i := 2) (L' := #[true, true, true, false, false, false, false, false, false, false, false, false, false, false, false, false, false, false, false, false, false, false, false, false]) H rfl (wN rfl) rfl rfl rfl (by kernel_rfl) rfl (fun w H => x_fieldAddr (H.r 8 rfl) fa80_1) ?_; clear H; intro T H
  refine GA.v (i := 3) (L' := #[true, true, true, true, false, false, false, false, false, false, false, false, false, false, false, false, false, false, false, false, false, false, false, false]) H rfl (wN rfl) rfl rfl rfl (by kernel_rfl) rfl (fun w H => x_load (H.r 9 rfl) Try.isAgg77 (by first | exact H.cell (by repeat (first | exact List.mem_cons_self | apply List.mem_cons_of_mem)) _ rfl | exact H.cellR (by repeat (first | exact List.mem_cons_self | apply List.mem_cons_of_mem)) _ rfl)) ?_; clear H; intro T H
  refine GA.v (i := 4) (L' := #[true, true, true, true, true, false, false, false, false, false, false, false, false, false, false, false, false, false, false, false, false, false, false, false]) H rfl (wN rfl) rfl rfl rfl (by kernel_rfl) rfl (fun w H => x_move (H.r 0 rfl)) ?_; clear H; intro T H
  refine GA.v (i := 5) (L' := #[true, true, true, true, true, true, false, false, false, false, false, false, false, false, false, false, false, false, false, false, false, false, false, false]) H rfl (wN rfl) rfl rfl rfl (by kernel_rfl) rfl (fun w H => x_nil (H.r 11 rfl)) ?_; clear H; intro T H
  refine GA.v (i := 6) (L' := #[true, true, true, true, true, true, true, false, false, false, false, false, false, false, false, false, false, false, false, false, false, false, false, false]) H rfl (wN rfl) rfl rfl rfl (by kernel_rfl) rfl (fun w H => x_fieldAddr (H.r 12 rfl) fa80_0) ?_; clear H; intro T H
  refine GA.v (i := 7) (L' := #[true, true, true, true, true, true, true, true, false, false, false, false, false, false, false, false, false, false, false, false, false, false, false, false]) H rfl (wN rfl) rfl rfl rfl (by kernel_rfl) rfl (fun w H => x_fieldAddr (H.r 13 rfl) fa25_1) ?_; clear H; intro T H
  refine GA.v (i := 8) (L' := #[true, true, true, true, true, true, true, true, true, false, false, false, false, false, false, false, false, false, false, false, false, false, false, false]) H rfl (wN rfl) rfl rfl rfl (by kernel_rfl) rfl (fun w H => x_load (H.r 14 rfl) Try.isAgg23 (by first | exact H.cell (by repeat (first | exact List.mem_cons_self | apply List.mem_cons_of_mem)) _ rfl | exact H.cellR (by repeat (first | exact List.mem_cons_self | apply List.mem_cons_of_mem)) _ rfl)) ?_; clear H; intro T H
  refine GA.v (i := 9) (L' := #[true, true, true, true, true, true, true, true, true, true, false, false, false, false, false, false, false, false, false, false, false, false, false, false]) H rfl (wN rfl) rfl rfl rfl (by kernel_rfl) rfl (fun w H => x_move (H.r 2 rfl)) ?_; clear H; intro T H
  refine GA.v (i := 10) (L' := #[true, true, true, true, true, true, true, true, true, true, true, false, false, false, false, false, false, false, false, false, false, false, false, false]) H rfl (wN rfl) rfl rfl rfl (by kernel_rfl) rfl (fun w H => x_ixSN (H.r 15 rfl) (H.r 16 rfl) Try.runUnderlying23 Try.sizeOf42 (by omega)) ?_; clear H; intro T H
  refine GA.v (i := 11) (L' := #[true, true, true, true, true, true, true, true, true, true, true, true, false, false, false, false, false, false, false, false, false, false, false, false]) H rfl (wN rfl) rfl rfl rfl (by kernel_rfl) rfl (fun w H => x_fieldAddr (H.r 17 rfl) fa42_0) ?_; clear H; intro T H
  refine GA.v (i := 12) (L' := #[true, true, true, true, true, true, true, true, true, true, true, true, true, false, false, false, false, false, false, false, false, false, false, false]) H rfl (wN rfl) rfl rfl rfl (by kernel_rfl) rfl (fun w H => x_load (H.r 18 rfl) Try.isAgg3 (H.ext (hL.cell _ z hz 0 _ rfl) (by simp))) ?_; clear H; intro T H
  refine GA.v (i := 13) (L' := #[true, true, true, true, true, true, true, true, true, true, true, true, true, true, false, false, false, false, false, false, false, false, false, false]) H rfl (wN rfl) rfl rfl rfl (by kernel_rfl) rfl (fun w H => x_lookup (v := .func (.func (62 + z.for_.toNat)) #[] #[]) (H.r 10 rfl) (H.r 19 rfl) Try.runUnderlying77 Try.runUnderlying3 Try.zeroValue95 (H.old hmw (by simp)) (who_find ⟨hzf.1, hzf.2.1⟩) rfl) ?_; clear H; intro T H
  refine GA.v (i := 14) (L' := #[true, true, true, true, true, true, true, true, true, true, true, true, true, true, true, false, false, false, false, false, false, false, false, false]) H rfl (wN rfl) rfl rfl rfl (by kernel_rfl) rfl (fun w H => x_move (H.r 0 rfl)) ?_; clear H; intro T H
  refine GA.v (i := 15) (L' := #[true, true, true, true, true, true, true, true, true, true, true, true, true, true, true, true, false, false, false, false, false, false, false, false]) H rfl (wN rfl) rfl rfl rfl (by kernel_rfl) rfl (fun w H => x_nil (H.r 21 rfl)) ?_; clear H; intro T H
  refine GA.v (i := 16) (L' := #[true, true, true, true, true, true, true, true, true, true, true, true, true, true, true, true, true, false, false, false, false, false, false, false]) H rfl (wN rfl) rfl rfl rfl (by kernel_rfl) rfl (fun w H => x_fieldAddr (H.r 22 rfl) fa80_0) ?_; clear H; intro T H
  refine GA.v (i := 17) (L' := #[true, true, true, true, true, true, true, true, true, true, true, true, true, true, true, true, true, true, false, false, false, false, false, false]) H rfl (wN rfl) rfl rfl rfl (by kernel_rfl) rfl (fun w H => x_fieldAddr (H.r 23 rfl) fa25_0) ?_; clear H; intro T H
  refine GA.v (i := 18) (L' := #[true, true, true, true, true, true, true, true, true, true, true, true, true, true, true, true, true, true, true, false, false, false, false, false]) H rfl (wN rfl) rfl rfl rfl (by kernel_rfl) rfl (fun w H => x_load (H.r 24 rfl) Try.isAgg22 (by first | exact H.cell (by repeat (first | exact List.mem_cons_self | apply List.mem_cons_of_mem)) _ rfl | exact H.cellR (by repeat (first | exact List.mem_cons_self | apply List.mem_cons_of_mem)) _ rfl)) ?_; clear H; intro T H
  refine GA.v (i := 19) (L' := #[true, true, true, true, true, true, true, true, true, true, true, true, true, true, true, true, true, true, true, true, false, false, false, false]) H rfl (wN rfl) rfl rfl rfl (by kernel_rfl) rfl (fun w H => x_move (H.r 1 rfl)) ?_; clear H; intro T H
  refine GA.v (i := 20) (L' := #[true, true, true, true, true, true, true, true, true, true, true, true, true, true, true, true, true, true, true, true, true, false, false, false]) H rfl (wN rfl) rfl rfl rfl (by kernel_rfl) rfl (fun w H => x_ixSN (H.r 25 rfl) (H.r 26 rfl) Try.runUnderlying22 Try.sizeOf59 (by omega)) ?_; clear H; intro T H
  refine GA.v (i := 21) (L' := #[true, true, true, true, true, true, true, true, true, true, true, true, true, true, true, true, true, true, true, true, true, true, false, false]) H rfl (wN rfl) rfl rfl rfl (by kernel_rfl) rfl (fun w H => x_loadA (H.r 27 rfl) Try.isAgg59 Try.sizeOf59 (H.extA (hM.cell _ m hm) (by simp)) rfl) ?_; clear H; intro T H
  refine GA.fV (i := 22) (L' := #[true, true, true, true, true, true, true, true, true, true, true, true, true, true, true, true, true, true, true, true, true, true, true, false]) H rfl (wN rfl) rfl rfl rfl (by kernel_rfl) rfl (H.r 20 rfl) (args1 (H.r 28 rfl)) (whoC ⟨hzf.1, hzf.2.1⟩ m _) ?_; clear H; rintro v29 T w hv29 _ H
  refine GA.v (i := 23) (L' := #[true, true, true, true, true, true, true, true, true, true, true, true, true, true, true, true, true, true, true, true, true, true, true, true]) H rfl (wN rfl) rfl rfl rfl (by kernel_rfl) rfl (fun w H => x_assign (H.r 29 rfl)) ?_; clear H; intro T H
  refine GA.done (by kernel_rfl) ?_
  refine At.ret rfl ?_
  subst hv29
  exact lea Try.func35 (res1 Try.results35 (H.r 6 rfl)) (Ret.mk H.fr rfl)
end Go.Proofs.Pz
end
section
namespace Go.Proofs.Pz
open Go.Sx Go.RowKit
set_option linter.unusedVariables false
namespace A3
theorem fa25_0 (a : Addr) (w : World) : (Instr.fieldAt 25 (.pointer (some a)) 0).run Try.prog w = .ok (.pointer (some (a.add 0))) w := by simp [go_sem]
theorem fa80_0 (a : Addr) (w : World) : (Instr.fieldAt 80 (.pointer (some a)) 0).run Try.prog w = .ok (.pointer (some (a.add 0))) w := by simp [go_sem]
theorem fa80_2 (a : Addr) (w : World) : (Instr.fieldAt 80 (.pointer (some a)) 2).run Try.prog w = .ok (.pointer (some (a.add 3))) w := by simp [go_sem]
end A3
open A3
theorem order {b : Nat} {isV : Value} (w : World) (h1 : isV.cells = #[isV]) : Calls Try.prog 45 #[.pointer (some ⟨b, 0, none⟩), isV] w
    (RetG w fun v E _ => ∃ bp bi, v = .func (.func 55) #[] #[.pointer (some ⟨bp, 0, none⟩), .pointer (some ⟨bi, 0, none⟩)] ∧ E = [.blk bi (Eo (.cells [isV].toArray 55 (0, 0))), .blk bp (Eo (.cells [.pointer (some ⟨b, 0, none⟩)].toArray 67 (0, 0)))]) := by
  refine enter (args := [.pointer (some ⟨b, 0, none⟩), isV]) (S := []) Try.func45 rfl Try.ntmps45 rfl fun cs T H => ?_
  refine At.seq ?_
  refine At.region' (l := [0, 1, 2]) rfl ?_
  refine At.new H rfl (wN rfl) rfl rfl rfl (x_box (H.r 0 rfl) rfl) ?_; clear H; intro b2 T w _ _ H
  refine At.new H rfl (wN rfl) rfl rfl rfl (x_box (l := [isV]) (H.r 1 rfl) h1) ?_; clear H; intro b3 T w _ _ H
  refine At.v H rfl (wN rfl) rfl rfl rfl (x_assign evC) ?_; clear H; intro T H
  refine At.regionEnd ?_
  refine At.seq ?_
  refine At.region' (l := [0, 1]) rfl ?_
  refine At.v H rfl (wN rfl) rfl rfl rfl (x_makeFunc args0 (args2 (H.r 2 rfl) (H.r 3 rfl))) ?_; clear H; intro T H
  refine At.v H rfl (wN rfl) rfl rfl rfl (x_assign (H.r 5 rfl)) ?_; clear H; intro T H
  refine At.regionEnd ?_
  refine At.ret rfl ?_
  exact lea Try.func45 (res1 Try.results45 (H.r 4 rfl)) (RetG.of H _ (List.Sublist.refl _) (by simp [Ent.w, Ent.keys]) ⟨b2, b3, rfl, rfl⟩)

theorem order_it {b bp bi : Nat} {isV : Value} {men : List Wi} {list : List Zi} (hv : Valid men list) {p : Nat → Bool} : IterC Try.prog 55 #[] #[.pointer (some ⟨bp, 0, none⟩), .pointer (some ⟨bi, 0, none⟩)] (intV ((ord men).filter p))
    (fun w => Op w b men list ∧ w.cell? ⟨bp, 0, none⟩ = some (.pointer (some ⟨b, 0, none⟩)) ∧ w.cell? ⟨bi, 0, none⟩ = some isV ∧ ∀ m, m < men.length → CallsV Try.prog isV #[.int .i64 (m : Int)] w (Ret w fun v _ => v = .bool (p m))) := by
  intro yv J Jx w h0 hEnv hFr hy
  obtain ⟨hO, hbp, hbi, hc⟩ := hEnv _ _ h0
  obtain ⟨AM, cM, bM, oM, AL, cL, bL, oL, mw, hb, hmw, hM, hL⟩ := hO
  have hn8 := hv.n8
  have hlen := ord_length men
  refine enter (args := [yv, .pointer (some ⟨bp, 0, none⟩), .pointer (some ⟨bi, 0, none⟩)]) (S := []) Try.func55 rfl Try.ntmps55 rfl fun cs T H => ?_
  replace H := H.ro hb (by simp)
  refine At.scope ?_
  refine At.seq ?_
  refine At.label ?_
  refine At.seq ?_
  refine At.drawnC (m := 13) (L := #[false, false, false, false, false, false, false, false, false, false, false, false, false]) H mixed rfl rfl ?_; clear H; intro w H
  refine GA.v (i := 0) (L' := #[true, false, false, false, false, false, false, false, false, false, false, false, false]) H rfl (wN rfl) rfl rfl rfl (by kernel_rfl) rfl (fun w H => x_load (H.r 1 rfl) Try.isAgg67 (H.ext hbp (by simp))) ?_; clear H; intro T H
  refine GA.v (i := 1) (L' := #[true, true, false, false, false, false, false, false, false, false, false, false, false]) H rfl (wN rfl) rfl rfl rfl (by kernel_rfl) rfl (fun w H => x_nil (H.r 6 rfl)) ?_; clear H; intro T H
  refine GA.v (i := 2) (L' := #[true, true, true, false, false, false, false, false, false, false, false, false, false]) H rfl (wN rfl) rfl rfl rfl (by kernel_rfl) rfl (fun w H => x_fieldAddr (H.r 7 rfl) fa80_2) ?_; clear H; intro T H
  refine GA.v (i := 3) (L' := #[true, true, true, true, false, false, false, false, false, false, false, false, false]) H rfl (wN rfl) rfl rfl rfl (by kernel_rfl) rfl (fun w H => x_load (H.r 1 rfl) Try.isAgg67 (H.ext hbp (by simp))) ?_; clear H; intro T H
  refine GA.v (i := 4) (L' := #[true, true, true, true, true, false, false, false, false, false, false, false, false]) H rfl (wN rfl) rfl rfl rfl (by kernel_rfl) rfl (fun w H => x_nil (H.r 9 rfl)) ?_; clear H; intro T H
  refine GA.v (i := 5) (L' := #[true, true, true, true, true, true, false, false, false, false, false, false, false]) H rfl (wN rfl) rfl rfl rfl (by kernel_rfl) rfl (fun w H => x_fieldAddr (H.r 10 rfl) fa80_0) ?_; clear H; intro T H
  refine GA.v (i := 6) (L' := #[true, true, true, true, true, true, true, false, false, false, false, false, false]) H rfl (wN rfl) rfl rfl rfl (by kernel_rfl) rfl (fun w H => x_fieldAddr (H.r 11 rfl) fa25_0) ?_; clear H; intro T H
  refine GA.v (i := 7) (L' := #[true, true, true, true, true, true, true, true, false, false, false, false, false]) H rfl (wN rfl) rfl rfl rfl (by kernel_rfl) rfl (fun w H => x_load (H.r 12 rfl) Try.isAgg22 (by first | exact H.cell (by repeat (first | exact List.mem_cons_self | apply List.mem_cons_of_mem)) _ rfl | exact H.cellR (by repeat (first | exact List.mem_cons_self | apply List.mem_cons_of_mem)) _ rfl)) ?_; clear H; intro T H
  refine GA.v (i := 8) (L' := #[true, true, true, true, true, true, true, true, true, false, false, false, false]) H rfl (wN rfl) rfl rfl rfl (by kernel_rfl) rfl (fun w H => x_len (H.r 13 rfl) Try.runUnderlying22) ?_; clear H; intro T H
  refine GA.v (i := 9) (L' := #[true, true, true, true, true, true, true, true, true, true, false, false, false]) H rfl (wN rfl) rfl rfl rfl (by kernel_rfl) rfl (fun w H => x_add (H.r 14 rfl) evC (w64 (by omega) (by omega))) ?_; clear H; intro T H
  refine GA.v (i := 10) (L' := #[true, true, true, true, true, true, true, true, true, true, true, false, false]) H rfl (wN rfl) rfl rfl rfl (by kernel_rfl) rfl (fun w H => (x_slArrN (n := men.length + 1) (l := 1) (H.r 8 rfl) evC (H.r 15 rfl) Try.runUnderlying78 Try.sizeOf3 (by omega) (by omega) (by omega))) ?_; clear H; intro T H
  refine GA.v (i := 11) (L' := #[true, true, true, true, true, true, true, true, true, true, true, true, false]) H rfl (wN rfl) rfl rfl rfl (by kernel_rfl) rfl (fun w H => x_len (H.r 16 rfl) Try.runUnderlying30) ?_; clear H; intro T H
  refine GA.v (i := 12) (L' := #[true, true, true, true, true, true, true, true, true, true, true, true, true]) H rfl (wN rfl) rfl rfl rfl (by kernel_rfl) rfl (fun w H => x_move evC) ?_; clear H; intro T H
  refine GA.done (by kernel_rfl) ?_
  refine At.block ?_
  refine At.loopN (fun m T w => ∃ k, m = men.length - k ∧ k ≤ men.length ∧ J (cnt p (ord men) k) w ∧ Sx w [] 31 [(18, .int .i64 (k : Int)), (17, .int .i64 (men.length : Int)), (16, .slice (some ⟨b, 4, none⟩) men.length 8), (0, yv), (1, .pointer (some ⟨bp, 0, none⟩)), (2, .pointer (some ⟨bi, 0, none⟩))] [] T w) (men.length) ?_ ?_
  · exact ⟨0, rfl, Nat.zero_le _, hFr _ _ _ (by rw [cnt_zero]; exact h0) H.fr, (H.rebase _).sub ⟨rfl, rfl, rfl, rfl, rfl, rfl, trivial⟩⟩
  · clear H
    clear hb hmw hM hL hbp hbi hc h0
    rintro n T w ⟨k, rfl, hk, hJ, H⟩ hnext
    obtain ⟨hO, hbp, hbi, hc⟩ := hEnv _ _ hJ
    refine At.seq ?_
    refine At.region' (l := [0]) rfl ?_
    refine At.c H rfl (wN rfl) rfl rfl rfl (x_lss (H.r 18 rfl) (H.r 17 rfl)) ?_ ?_
    · clear H; intro h19 T H
      have hk1 : k < men.length := by omega
      obtain ⟨m, mi, hm1, hm2, hm3, hm4, hm5⟩ := hO.at hv hk1
      refine At.regionEnd ?_
      refine At.seq ?_
      refine At.condT (H.r 19 rfl) ?_
      refine At.skip ?_
      refine At.seq ?_
      refine At.block ?_
      refine At.seq ?_
      refine At.region' (l := [0, 1, 2]) rfl ?_
      refine At.v H rfl (wN rfl) rfl rfl rfl (x_ixSN (H.r 16 rfl) (H.r 18 rfl) Try.runUnderlying30 Try.sizeOf3 (by omega)) ?_; clear H; intro T H
      refine At.v H rfl (wN rfl) rfl rfl rfl (x_load (H.r 20 rfl) Try.isAgg3 (H.ext hm2 (by simp))) ?_; clear H; intro T H
      refine At.v H rfl (wN rfl) rfl rfl rfl (x_assign (H.r 21 rfl)) ?_; clear H; intro T H
      refine At.regionEnd ?_
      refine At.seq ?_
      refine At.seq ?_
      refine At.region' (l := [0, 1, 2, 3]) rfl ?_
      refine At.v H rfl (wN rfl) rfl rfl rfl (x_load (H.r 2 rfl) Try.isAgg55 (H.ext hbi (by simp))) ?_; clear H; intro T H
      refine At.v H rfl (wN rfl) rfl rfl rfl (x_move (H.r 5 rfl)) ?_; clear H; intro T H
      refine At.fV H rfl (wN rfl) rfl rfl rfl (H.r 22 rfl) (args1 (H.r 23 rfl)) (hc m hm3) ?_; clear H; rintro _ T w rfl hfr H
      replace hJ := hFr _ _ _ hJ hfr
      refine At.v H rfl (wN rfl) rfl rfl rfl (x_not (H.r 24 rfl)) ?_; clear H; intro T H
      refine At.regionEnd ?_
      refine At.condB (H.r 25 rfl) ?_ ?_
      · intro hc3
        rw [← cnt_skip hm1 (by simpa using hc3)] at hJ
        refine At.exit rfl ?_
        refine At.region' (l := [0, 1]) rfl ?_
        refine At.v H rfl (wN rfl) rfl rfl rfl (x_add (H.r 18 rfl) evC (w64 (by omega) (by omega))) ?_; clear H; intro T H
        refine At.v H rfl (wN rfl) rfl rfl rfl (x_move (H.r 30 rfl)) ?_; clear H; intro T H
        refine At.regionEnd ?_
        exact hnext (men.length - (k + 1)) _ _ (by omega) ⟨k + 1, rfl, by omega, hJ, (H.rebase _).sub ⟨rfl, rfl, rfl, rfl, rfl, rfl, trivial⟩⟩
      · intro hc3
        obtain ⟨hct, hcx⟩ := cnt_take hm1 (by simpa using hc3)
        refine At.skip ?_
        refine At.seq ?_
        refine At.region' (l := [0, 1, 2, 3]) rfl ?_
        refine At.v H rfl (wN rfl) rfl rfl rfl (x_move (H.r 0 rfl)) ?_; clear H; intro T H
        refine At.v H rfl (wN rfl) rfl rfl rfl (x_move (H.r 5 rfl)) ?_; clear H; intro T H
        refine At.fVb H rfl (wN rfl) rfl rfl rfl (H.r 26 rfl) (args1 (H.r 27 rfl)) (hy _ _ _ (intV_at hcx) hJ) ?_ ?_
        · clear H hJ; intro T w hJ H
          rw [← hct] at hJ
          refine At.v H rfl (wN rfl) rfl rfl rfl (x_notT (H.r 28 rfl)) ?_; clear H; intro T H
          refine At.regionEnd ?_
          refine At.condF (H.r 29 rfl) ?_
          refine At.skip ?_
          refine At.inBlock ?_
          refine At.region' (l := [0, 1]) rfl ?_
          refine At.v H rfl (wN rfl) rfl rfl rfl (x_add (H.r 18 rfl) evC (w64 (by omega) (by omega))) ?_; clear H; intro T H
          refine At.v H rfl (wN rfl) rfl rfl rfl (x_move (H.r 30 rfl)) ?_; clear H; intro T H
          refine At.regionEnd ?_
          exact hnext (men.length - (k + 1)) _ _ (by omega) ⟨k + 1, rfl, by omega, hJ, (H.rebase _).sub ⟨rfl, rfl, rfl, rfl, rfl, rfl, trivial⟩⟩
        · clear H hJ; intro T w hJ H
          refine At.v H rfl (wN rfl) rfl rfl rfl (x_notF (H.r 28 rfl)) ?_; clear H; intro T H
          refine At.regionEnd ?_
          refine At.condT (H.r 29 rfl) ?_
          refine At.ret rfl ?_
          refine lea Try.func55 (res0 Try.results55) ⟨rfl, ?_⟩
          first | exact .inr hJ | (have hkk : k = (ord men).length := by omega) <;> (subst hkk; rw [cnt_all, ← intV_len] at hJ; exact .inl hJ)
    · clear H; intro h19 T H
      refine At.regionEnd ?_
      refine At.seq ?_
      refine At.condF (H.r 19 rfl) ?_
      refine At.exit rfl ?_
      refine At.inScope ?_
      refine At.fin rfl ?_
      refine lea Try.func55 (res0 Try.results55) ⟨rfl, ?_⟩
      first | exact .inr hJ | (have hkk : k = (ord men).length := by omega) <;> (subst hkk; rw [cnt_all, ← intV_len] at hJ; exact .inl hJ)
end Go.Proofs.Pz
end
section
namespace Go.Proofs.Pz
open Go.Sx Go.RowKit
set_option linter.unusedVariables false
namespace A4
theorem fa98_0 (a : Addr) (w : World) : (Instr.fieldAt 98 (.pointer (some a)) 0).run Try.prog w = .ok (.pointer (some (a.add 0))) w := by simp [go_sem]
end A4
open A4
/-- a function value that tells who is wanted -/
def IsP (n : Nat) (isV : Value) (p : Nat → Bool) (w : World) : Prop := ∀ w', Fr [] w w' → ∀ m, m < n → CallsV Try.prog isV #[.int .i64 (m : Int)] w' (Ret w' fun v _ => v = .bool (p m))
theorem IsP.fr {n : Nat} {isV : Value} {p : Nat → Bool} {w w' : World} (h : IsP n isV p w) (hf : Fr [] w w') : IsP n isV p w' := fun w2 h2 => h w2 (hf.trans0 h2)

theorem left {h : Nat} {s : Int → Bool} {w : World} (hh : Hs h s w) (m : Int) : Calls Try.prog 41 #[.map (some h), .int .i64 m] w (Ret w fun v _ => v = .bool (!s m)) := by
  obtain ⟨f, hm, hs⟩ := hh
  refine enter (args := [.map (some h), .int .i64 m]) (S := []) Try.func41 rfl Try.ntmps41 rfl fun cs T H => ?_
  refine At.seq ?_
  refine At.region' (l := [0]) rfl ?_
  refine At.v H rfl (wN rfl) rfl rfl rfl (x_assign evC) ?_; clear H; intro T H
  refine At.regionEnd ?_
  refine At.seq ?_
  refine At.region' (l := [0, 1, 2, 3, 4]) rfl ?_
  refine At.v H rfl (wN rfl) rfl rfl rfl (x_move (H.r 0 rfl)) ?_; clear H; intro T H
  refine At.v H rfl (wN rfl) rfl rfl rfl (x_move (H.r 1 rfl)) ?_; clear H; intro T H
  have hl := x_look (P := Try.prog) (w := w) (ρ := evT T) (d := some 7) (ty := 4) (pos := "") (af := #[]) (g := none) (t := 75) (H.r 5 rfl) (H.r 6 rfl) Try.runUnderlying75 Try.runUnderlying3 Try.zeroValue4 hm
  rw [hs] at hl
  refine At.v H rfl (wN rfl) rfl rfl rfl hl ?_; clear H hl; intro T H
  refine At.v H rfl (wN rfl) rfl rfl rfl (x_not (H.r 7 rfl)) ?_; clear H; intro T H
  refine At.v H rfl (wN rfl) rfl rfl rfl (x_assign (H.r 8 rfl)) ?_; clear H; intro T H
  refine At.regionEnd ?_
  refine At.ret rfl ?_
  exact lea Try.func41 (res1 Try.results41 (H.r 4 rfl)) (Ret.mk H.fr rfl)
theorem left_isP {n h : Nat} {s : Int → Bool} {w : World} (hh : Hs h s w) : IsP n (.func (.func 41) #[.map (some h)] #[]) (fun m => !s (m : Int)) w :=
  fun w' hf m _ => CallsV.func ⟨_, Try.func41, rfl, rfl⟩ (left (hh.fr hf (by simp)) _)

theorem x_eqClub {ρ : Operand → Value} {d : Option Tmp} {ty u : TypeId} {pos : String} {af : Array Edge} {g : Option (Nat × Bool)} {w : World} {x y : Operand} {a b : Int} (hx : ρ x = .agg #[.int .i64 a, .int .i64 b]) (hy : ρ y = .agg #[.int .i64 0, .int .i64 0]) :
    (execOp ρ ⟨d, .binOp .eql 90 x y u, ty, pos, af, g⟩).run Try.prog w = .ok (.value (.bool (decide (a = 0 ∧ b = 0)))) w := by
  by_cases h1 : a = 0
  · by_cases h2 : b = 0
    · subst h1 h2; simp [execOp, hx, hy, go_sem]
    · have : (b == 0) = false := by simpa using h2
      subst h1; simp [execOp, hx, hy, go_sem, this, h2]
  · have : (a == 0) = false := by simpa using h1
    simp [execOp, hx, hy, go_sem, this, h1]

theorem gives {b : Nat} {men : List Wi} {list : List Zi} {w : World} (hO : Op w b men list) (hv : Valid men list) {prize : Nat} {z : Zi} (hz : list[prize]? = some z) {p : Nat → Bool} {isV : Value} (hp : IsP men.length isV p w) (hc1 : isV.cells = #[isV]) :
    Calls Try.prog 84 #[.agg #[.pointer (some ⟨b, 0, none⟩)], .int .i64 (prize : Int), isV] w (Ret w fun v _ => v = .int .i64 (orNone (givesP men p z.for_))) := by
  refine enter (args := [.agg #[.pointer (some ⟨b, 0, none⟩)], .int .i64 (prize : Int), isV]) (S := []) Try.func84 rfl Try.ntmps84 rfl fun cs T H => ?_
  refine At.seq ?_
  refine At.region' (l := [0, 1, 2]) rfl ?_
  refine At.new H rfl (wN rfl) rfl rfl rfl (x_box (H.r 0 rfl) rfl) ?_; clear H; intro b3 T w _ _ H
  refine At.new H rfl (wN rfl) rfl rfl rfl (x_box (H.r 1 rfl) rfl) ?_; clear H; intro b4 T w _ _ H
  refine At.new H rfl (wN rfl) rfl rfl rfl (x_alloc Try.zeroValue3 rfl) ?_; clear H; intro b6 T w _ _ H
  refine At.regionEnd ?_
  refine At.seq ?_
  refine At.seq ?_
  refine At.region' (l := [0, 1, 2, 3]) rfl ?_
  refine At.v H rfl (wN rfl) rfl rfl rfl (x_fieldAddr (H.r 3 rfl) fa98_0) ?_; clear H; intro T H
  refine At.v H rfl (wN rfl) rfl rfl rfl (x_load (H.r 8 rfl) Try.isAgg67 (by first | exact H.cell (by repeat (first | exact List.mem_cons_self | apply List.mem_cons_of_mem)) _ rfl | exact H.cellR (by repeat (first | exact List.mem_cons_self | apply List.mem_cons_of_mem)) _ rfl)) ?_; clear H; intro T H
  refine At.v H rfl (wN rfl) rfl rfl rfl (x_move (H.r 2 rfl)) ?_; clear H; intro T H
  refine At.fG H rfl (wN rfl) rfl rfl rfl (args2 (H.r 9 rfl) (H.r 10 rfl)) Try.call45 (order _ hc1) ?_; clear H; rintro v11 E11 T w ⟨bp, bi, rfl, rfl⟩ _ H
  refine At.regionEnd ?_
  refine At.block ?_
  refine At.range H rfl (H.r 11 rfl) ⟨_, Try.func55, rfl, rfl⟩ rfl (order_it (b := b) (isV := isV) hv (p := p)) (fun k G' => G' = [.blk bi (Eo (.cells [isV].toArray 55 (0, 0))), .blk bp (Eo (.cells [.pointer (some ⟨b, 0, none⟩)].toArray 67 (0, 0))), .blk b6 (Eo (.cells [.int .i64 0].toArray 3 (0, 0))), .blk b4 (Eo (.cells [.int .i64 (prize : Int)].toArray 3 (0, 0))), .blk b3 (Eo (.cells [.pointer (some ⟨b, 0, none⟩)].toArray 98 (0, 0)))] ∧ (((ord men).filter p).take k).find? (canAt men z.for_) = none) (fun c G' => c = .ret ∧ ∃ m : Nat, G' = [.blk bi (Eo (.cells [isV].toArray 55 (0, 0))), .blk bp (Eo (.cells [.pointer (some ⟨b, 0, none⟩)].toArray 67 (0, 0))), .blk b6 (Eo (.cells [.int .i64 (m : Int)].toArray 3 (0, 0))), .blk b4 (Eo (.cells [.int .i64 (prize : Int)].toArray 3 (0, 0))), .blk b3 (Eo (.cells [.pointer (some ⟨b, 0, none⟩)].toArray 98 (0, 0)))] ∧ givesP men p z.for_ = some m) ?_ ?_ ?_ ?_ ?_
  · exact ⟨rfl, by simp⟩
  · intro kk G1 w1 hI1 H1
    obtain ⟨rfl, hN⟩ := hI1
    exact ⟨hO.fr H1.fr, H1.cell (by repeat (first | exact List.mem_cons_self | apply List.mem_cons_of_mem)) 0 rfl, H1.cell (by repeat (first | exact List.mem_cons_self | apply List.mem_cons_of_mem)) 0 rfl, hp _ H1.fr⟩
  · clear H; intro d1 l1 kk x1 G1 T w c1 cs1 lo1 hlo hx1 hI1 H
    obtain ⟨rfl, hN⟩ := hI1
    obtain ⟨m, hm, rfl⟩ := intV_inv hx1
    obtain ⟨mi, hmlt, hmi⟩ := hv.ord_mem (List.mem_filter.1 (List.mem_of_getElem? hm)).1
    refine At.region' (l := [0]) rfl ?_
    refine At.v H rfl (wN rfl) rfl rfl rfl (x_assign (H.r 12 rfl)) ?_; clear H; intro T H
    refine At.regionEnd ?_
    refine At.begR H hlo rfl ?_; clear H; intro w H
    refine At.block ?_
    refine At.seq ?_
    refine At.region' (l := [0, 1, 2, 3, 4]) rfl ?_
    refine At.v H rfl (wN rfl) rfl rfl rfl (x_fieldAddr (H.r 3 rfl) fa98_0) ?_; clear H; intro T H
    refine At.v H rfl (wN rfl) rfl rfl rfl (x_load (H.r 13 rfl) Try.isAgg67 (by first | exact H.cell (by repeat (first | exact List.mem_cons_self | apply List.mem_cons_of_mem)) _ rfl | exact H.cellR (by repeat (first | exact List.mem_cons_self | apply List.mem_cons_of_mem)) _ rfl)) ?_; clear H; intro T H
    refine At.v H rfl (wN rfl) rfl rfl rfl (x_move (H.r 7 rfl)) ?_; clear H; intro T H
    refine At.v H rfl (wN rfl) rfl rfl rfl (x_load (H.r 4 rfl) Try.isAgg3 (by first | exact H.cell (by repeat (first | exact List.mem_cons_self | apply List.mem_cons_of_mem)) _ rfl | exact H.cellR (by repeat (first | exact List.mem_cons_self | apply List.mem_cons_of_mem)) _ rfl)) ?_; clear H; intro T H
    refine At.f0 H rfl (wN rfl) rfl rfl rfl (args3 (H.r 14 rfl) (H.r 15 rfl) (H.r 16 rfl)) Try.call35 (can (hO.fr H.fr) hv hmi hz) ?_; clear H; rintro v17 T w rfl _ H
    refine At.regionEnd ?_
    refine At.condB (H.r 17 rfl) ?_ ?_
    · intro hc3
      refine At.seq ?_
      refine At.region' (l := [0, 1]) rfl ?_
      refine At.v H rfl (wN rfl) rfl rfl rfl (x_move (H.r 7 rfl)) ?_; clear H; intro T H
      refine At.store1 H rfl (wN rfl) rfl rfl (H.r 6 rfl) (H.r 18 rfl) Try.sizeOf3 rfl rfl (by repeat (first | exact Upd.here | apply Upd.there)) (by repeat (first | exact SetAt.z | apply SetAt.s)) ?_; clear H; intro T w _ H
      refine At.regionEnd ?_
      exact At.leaveRet H hlo rfl rfl (by repeat (first | exact Picks.nil | exact Picks.all | refine Picks.cons (by repeat (first | exact Take.here | apply Take.there)) ?_ | apply Picks.skip)) ⟨rfl, m, rfl, find_some_of hN hm (by rw [canAt_eq hmi]; exact hc3)⟩
    · intro hc3
      refine At.skip ?_
      refine At.inBlock ?_
      exact At.leaveN H hlo rfl rfl (by repeat (first | exact Picks.nil | exact Picks.all | refine Picks.cons (by repeat (first | exact Take.here | apply Take.there)) ?_ | apply Picks.skip)) ⟨rfl, find_none_succ hN hm (by rw [canAt_eq hmi]; exact hc3)⟩
  · clear H; intro d1 G1 w hI1 H
    obtain ⟨rfl, hN⟩ := hI1
    have hG : givesP men p z.for_ = none := by rw [intV_len, List.take_length] at hN; exact hN
    refine At.inBlock ?_
    refine At.seq ?_
    refine At.region' (l := [0]) rfl ?_
    refine At.store1 H rfl (wN rfl) rfl rfl (H.r 6 rfl) evC Try.sizeOf3 rfl rfl (by repeat (first | exact Upd.here | apply Upd.there)) (by repeat (first | exact SetAt.z | apply SetAt.s)) ?_; clear H; intro T w _ H
    refine At.regionEnd ?_
    refine At.ret rfl ?_
    exact Lea.coll1 H .all (fun w H => lea Try.func84 (resL1 Try.results84 (.cell (H.r 6 rfl) Try.isAgg3 (H.cell (by repeat (first | exact List.mem_cons_self | apply List.mem_cons_of_mem)) 0 rfl) .nil)) (Ret.mk H.fr (by rw [hG]; rfl)))
  · clear H; intro d1 c1 G1 w hI1 H
    obtain ⟨rfl, m, rfl, hG⟩ := hI1
    refine At.ret rfl ?_
    exact Lea.coll1 H .all (fun w H => lea Try.func84 (resL1 Try.results84 (.cell (H.r 6 rfl) Try.isAgg3 (H.cell (by repeat (first | exact List.mem_cons_self | apply List.mem_cons_of_mem)) 0 rfl) .nil)) (Ret.mk H.fr (by rw [hG]; rfl)))
end Go.Proofs.Pz
end
