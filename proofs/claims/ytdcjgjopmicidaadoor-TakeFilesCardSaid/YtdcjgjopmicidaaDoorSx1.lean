/-
  A calculus of my own over the machine: one frame is run to its end (E), region by region, its operations in whatever order the machine draws.
-/
import Derived.Calls
import Derived.Orders
import Derived.RowKit3
import Derived.OwnWalk
import Derived.Below
namespace Go.Sx
open Go.RowKit

/-! ### frames -/
def on (b : Frame) (a : Act) (todo : List Item) : Frame := { b with tmps := a.tmps, todo := todo, defers := a.defers, mode := .run }

theorem on_eval (b : Frame) (a : Act) (todo : List Item) : (on b a todo).eval = a.eval := by
  funext x; cases x <;> rfl

/-- From here the frame comes to an end that F knows. -/
def E (P : Program) (F : Frame → World → Prop) (b : Frame) (todo : List Item) (a : Act) (w : World) : Prop :=
  ∀ cs, ∃ fr w', F fr w' ∧ Steps P (lone (on b a todo) cs w) (lone fr cs w')

section steps
variable {P : Program} {F : Frame → World → Prop} {b : Frame} {k : List Item} {a : Act} {w : World}

theorem E.step {todo todo' : List Item} {a' : Act} {w' : World}
    (h : E P F b todo' a' w') (hs : ∀ cs, step P (lone (on b a todo) cs w) = .next (lone (on b a' todo') cs w')) : E P F b todo a w :=
  fun cs => let ⟨fr, w'', hF, hst⟩ := h cs; ⟨fr, w'', hF, .head (hs cs) hst⟩

theorem E.steps {todo todo' : List Item} {a' : Act} {w' : World}
    (h : E P F b todo' a' w') (hs : ∀ cs, Steps P (lone (on b a todo) cs w) (lone (on b a' todo') cs w')) : E P F b todo a w :=
  fun cs => let ⟨fr, w'', hF, hst⟩ := h cs; ⟨fr, w'', hF, (hs cs).trans hst⟩

theorem E_skip (h : E P F b k a w) : E P F b (.code .skip :: k) a w :=
  h.step fun cs => step_lone_go (by simp [stepG, stepG.exec, on])
theorem E_label {l : Nat} (h : E P F b k a w) : E P F b (.code (.label l) :: k) a w :=
  h.step fun cs => step_lone_go (by simp [stepG, stepG.exec, on])
theorem E_inBlock {i : Nat} (h : E P F b k a w) : E P F b (.inBlock i :: k) a w :=
  h.step fun cs => step_lone_go (by simp [stepG, stepG.exec, on])
theorem E_inScope {c : Code} (h : E P F b k a w) : E P F b (.inScope c :: k) a w :=
  h.step fun cs => step_lone_go (by simp [stepG, stepG.exec, on])
theorem E_seq {x y : Code} (h : E P F b (.code x :: .code y :: k) a w) : E P F b (.code (.seq x y) :: k) a w :=
  h.step fun cs => step_lone_go (by simp [stepG, stepG.exec, on])
theorem E_block {i : Nat} {c : Code} (h : E P F b (.code c :: .inBlock i :: k) a w) : E P F b (.code (.block i c) :: k) a w :=
  h.step fun cs => step_lone_go (by simp [stepG, stepG.exec, on])
theorem E_scope {c : Code} (h : E P F b (.code c :: .inScope c :: k) a w) : E P F b (.code (.scope c) :: k) a w :=
  h.step fun cs => step_lone_go (by simp [stepG, stepG.exec, on])
theorem E_loop {c : Code} (h : E P F b (.code c :: .inLoop c :: k) a w) : E P F b (.code (.loop c) :: k) a w :=
  h.step fun cs => step_lone_go (by simp [stepG, stepG.exec, on])
theorem E_inLoop {c : Code} (h : E P F b (.code c :: .inLoop c :: k) a w) : E P F b (.inLoop c :: k) a w :=
  h.step fun cs => step_lone_go (by simp [stepG, stepG.exec, on])
theorem E_exit {i : Nat} {k' : List Item} (hk : exitTo i k = some k') (h : E P F b k' a w) : E P F b (.code (.exit i) :: k) a w :=
  h.step fun cs => step_lone_go (by simp [stepG, stepG.exec, on, hk])
theorem E_goto {l : Nat} {k' : List Item} (hk : gotoIn l k = some k') (h : E P F b k' a w) : E P F b (.code (.goto l) :: k) a w :=
  h.step fun cs => step_lone_go (by simp [stepG, stepG.exec, on, hk])
theorem E_cond {c : Operand} {x y : Code} {t : Bool} (hc : a.eval c = .bool t) (h : E P F b (.code (if t then x else y) :: k) a w) : E P F b (.code (.cond c x y) :: k) a w :=
  h.step fun cs => step_lone_go (by
    have := congrFun (on_eval b a (.code (.cond c x y) :: k)) c
    simp only [on] at this
    simp [stepG, stepG.exec, on, this, hc])
end steps

/-! ### what an operation comes to -/
/-- A round of a range-over-func loop, called: it comes back with a value. -/
def Rnd (P : Program) (l f : Nat) (tmps : Array Value) (assign body : Code) (w : World) (R : Value → World → Prop) : Prop :=
  ∀ (c : Frame) (cs : List Frame), ∃ v w', R v w' ∧ Steps P (lone (Frame.round l f tmps assign body .normal) (c :: cs) w) (lone (c.finish v) cs w')

/-- A call that returns. -/
def Ret (P : Program) (f : FuncId) (args : Array Value) (w : World) (R : Value → World → Prop) : Prop :=
  Calls P f args w fun e w' => match e with | .returned v => R v w' | _ => False

/-- What an operation's run comes to, where it comes to a value. -/
def NextOk (P : Program) (r : Result Next) (R : Value → World → Prop) : Prop :=
  match r with
  | .ok (.value v) w' => R v w'
  | .ok .skip w' => R undef w'
  | .ok (.enter f args) w' => Ret P f args w' R
  | .ok (.round l f tmps assign body) w' => Rnd P l f tmps assign body w' R
  | .ok (.row row args) w' => Rows P row args w' R
  | _ => False

theorem Ret.mono {P : Program} {f : FuncId} {args : Array Value} {w : World} {R R' : Value → World → Prop} (h : Ret P f args w R) (hr : ∀ v w', R v w' → R' v w') : Ret P f args w R' :=
  Calls.mono h fun e w' he => by cases e <;> first | exact hr _ _ he | exact he

theorem Rnd.mono {P : Program} {l f : Nat} {tmps : Array Value} {assign body : Code} {w : World} {R R' : Value → World → Prop} (h : Rnd P l f tmps assign body w R) (hr : ∀ v w', R v w' → R' v w') : Rnd P l f tmps assign body w R' :=
  fun c cs => let ⟨v, w', r, s⟩ := h c cs; ⟨v, w', hr _ _ r, s⟩

theorem NextOk.mono {P : Program} {r : Result Next} {R R' : Value → World → Prop} (h : NextOk P r R) (hr : ∀ v w', R v w' → R' v w') : NextOk P r R' := by
  cases r with
  | halt x w' => exact h.elim
  | ok n w' =>
    cases n <;> simp only [NextOk] at h ⊢ <;> first | exact hr _ _ h | exact h.mono hr | exact Rows.mono h hr | exact h.elim

/-- The operations of a frame in a round are those of any frame, but for a deferred call. -/
def Oper.isDefer (o : Oper) : Bool := match o.op with | .defer _ => true | _ => false

theorem E_op {P : Program} {F : Frame → World → Prop} {b : Frame} {k : List Item} {a : Act} {w : World} {ops : Array Oper} {i : Nat} {rest : List Nat} {o : Oper}
    (_hb : b.kind = .normal) (ho : ops[i]? = some o) (hw : Region.wanted o (yielded ops a.tmps) = true) (hd : Oper.isDefer o = false)
    (h : NextOk P ((execOp a.eval o).run P w) fun v w' => E P F b (.inRegion ops rest :: k) (a.put o.dst v) w') :
    E P F b (.inRegion ops (i :: rest) :: k) a w := by
  have he := on_eval b a (.inRegion ops (i :: rest) :: k)
  have hop : (on b a (.inRegion ops (i :: rest) :: k)).oper? = some o := by simp [on, Frame.oper?, ho]
  have hfin : ∀ v, (on b a (.inRegion ops (i :: rest) :: k)).finish v = on b (a.put o.dst v) (.inRegion ops rest :: k) := by
    intro v
    cases hdst : o.dst <;> simp [Frame.finish, on, Act.put, ho, hdst]
  have hg : ∀ cs, stepG P true { frame := on b a (.inRegion ops (i :: rest) :: k), callers := cs, status := .running, dying := none } w =
      stepG.apply P true (on b a (.inRegion ops (i :: rest) :: k)) cs none (execOp a.eval o) w := by
    intro cs
    have hm : (on b a (.inRegion ops (i :: rest) :: k)).mode = .run := rfl
    simp only [stepG, hm]
    have ht : (on b a (.inRegion ops (i :: rest) :: k)).todo = .inRegion ops (i :: rest) :: k := rfl
    have htm : (on b a (.inRegion ops (i :: rest) :: k)).tmps = a.tmps := rfl
    simp only [stepG.exec, ht, htm, ho, Option.map_some, hw, Option.getD_some, if_true, stepG.oper, hop, he]
    cases hr : (on b a (.inRegion ops (i :: rest) :: k)).roundOf with
    | none => rfl
    | some l =>
      cases hoo : o.op <;> simp [Oper.isDefer, hoo] at hd <;> rfl
  intro cs
  have hkind : (match (on b a (.inRegion ops (i :: rest) :: k)).todo with | .call _ true _ _ :: _ => CallKind.wrapped | _ => CallKind.normal) = .normal := rfl
  cases hrun : (execOp a.eval o).run P w with
  | halt x w' => rw [hrun] at h; exact h.elim
  | ok n w' =>
    rw [hrun] at h
    cases n <;> simp only [NextOk] at h <;> first
      | exact h.elim
      | skip
    case value v =>
      obtain ⟨fr, w'', hF, hs⟩ := h cs
      refine ⟨fr, w'', hF, .head (step_lone_go ?_) hs⟩
      rw [hg, ← hfin]; simp [stepG.apply, hrun]
    case skip =>
      obtain ⟨fr, w'', hF, hs⟩ := h cs
      refine ⟨fr, w'', hF, .head (step_lone_go ?_) hs⟩
      rw [hg, ← hfin]; simp [stepG.apply, hrun]
    case enter f args =>
      obtain ⟨e, w'', fr, hR, hcomes, _, hleave⟩ := h (on b a (.inRegion ops (i :: rest) :: k) :: cs)
      have henter : step P (lone (on b a (.inRegion ops (i :: rest) :: k)) cs w) = .next (lone (Frame.enter P f args .normal) (on b a (.inRegion ops (i :: rest) :: k) :: cs) w') :=
        step_lone_go (by rw [hg]; simp [stepG.apply, hrun, on])
      cases e with
      | returned v =>
        obtain ⟨fr2, w3, hF, hs⟩ := hR cs
        refine ⟨fr2, w3, hF, .head henter (Steps.trans hcomes (.head ?_ hs))⟩
        rw [← hfin]; exact step_leave_returned hleave
      | panicked c => exact hR.elim
      | outgrown => exact hR.elim
    case round l f tmps assign body =>
      obtain ⟨v, w'', hR, hsteps⟩ := h (on b a (.inRegion ops (i :: rest) :: k)) cs
      obtain ⟨fr2, w3, hF, hs⟩ := hR cs
      have henter : step P (lone (on b a (.inRegion ops (i :: rest) :: k)) cs w) = .next (lone (Frame.round l f tmps assign body .normal) (on b a (.inRegion ops (i :: rest) :: k) :: cs) w') :=
        step_lone_go (by rw [hg]; simp [stepG.apply, hrun, on])
      refine ⟨fr2, w3, hF, .head henter (hsteps.trans ?_)⟩
      rw [hfin]; exact hs
    case row row args =>
      obtain ⟨v, w'', hR, hsteps⟩ := h (on b a (.inRegion ops (i :: rest) :: k)) cs
      obtain ⟨fr2, w3, hF, hs⟩ := hR cs
      have henter : step P (lone (on b a (.inRegion ops (i :: rest) :: k)) cs w) = .next (lone (Frame.ofRow P row args .normal) (on b a (.inRegion ops (i :: rest) :: k) :: cs) w') :=
        step_lone_go (by rw [hg]; simp [stepG.apply, hrun, on])
      refine ⟨fr2, w3, hF, .head henter (hsteps.trans ?_)⟩
      rw [hfin]; exact hs

section region
variable {P : Program} {F : Frame → World → Prop} {b : Frame} {k : List Item} {a : Act} {w : World} {ops : Array Oper}
theorem E_op_skip {i : Nat} {rest : List Nat} (hw : ((ops[i]?).map (Region.wanted · (yielded ops a.tmps))).getD false = false)
    (h : E P F b (.inRegion ops rest :: k) (a.put ((ops[i]?).bind (·.dst)) undef) w) : E P F b (.inRegion ops (i :: rest) :: k) a w := by
  refine h.step fun cs => step_lone_go ?_
  have hfin : (on b a (.inRegion ops (i :: rest) :: k)).finish undef = on b (a.put ((ops[i]?).bind (·.dst)) undef) (.inRegion ops rest :: k) := by
    cases hdst : (ops[i]?).bind (·.dst) <;> simp [Frame.finish, on, Act.put, hdst]
  rw [← hfin]
  simp only [on] at *
  simp [stepG, stepG.exec, hw]

theorem E_region_end (h : E P F b k a w) : E P F b (.inRegion ops [] :: k) a w :=
  h.step fun cs => step_lone_go (by simp [stepG, stepG.exec, on])
theorem E_region {id : Nat} (h : E P F b (.inRegion ops (List.range ops.size) :: k) a w) : E P F b (.code (.region id ops false) :: k) a w :=
  h.step fun cs => step_lone_go (by simp [stepG, stepG.exec, on])
theorem E_region_draw {id : Nat} (h : ∀ t, E P F b (.inRegion ops (Region.schedule (P.follows .mixedOrders) ops t) :: k) a { w with drawn := w.drawn + 1 }) :
    E P F b (.code (.region id ops true) :: k) a w :=
  (h (w.tape w.drawn (.order b.fn id))).step fun cs => step_lone_go (by simp [stepG, stepG.exec, on, choose, Sem.run, Question.forced, Question.cut])
end region

/-! ### the beginning and the end of a call -/
/-- The blocks that hold the deferred calls of this frame's range-over-func loops are emptied, one after another. -/
def EndOf (P : Program) (fn : Func) (R : Value → World → Prop) (tmps : Array Value) : List Deferred → World → Prop
  | [], w => ∃ v, (results fn tmps).run P w = .ok v w ∧ R v w
  | { target := .collected r, .. } :: ds, w => w.heap[r]? = some (.deferred (some [])) ∧ EndOf P fn R tmps ds { w with heap := w.heap.setIfInBounds r (.deferred none) }
  | _ :: _, _ => False

def FinOf (P : Program) (f : FuncId) (R : Value → World → Prop) (fr : Frame) (w : World) : Prop :=
  fr.fn = f ∧ ∃ v, R v w ∧ fr.leaving P w (.returned v)

theorem Steps_unwind {P : Program} {fn : Func} {R : Value → World → Prop} : ∀ (ds : List Deferred) (fr : Frame) (w : World), fr.mode = .returning → fr.kind = .normal → fr.defers = ds → P.funcs[fr.fn]? = some fn →
    EndOf P fn R fr.tmps ds w → ∀ cs, ∃ fr' w', FinOf P fr.fn R fr' w' ∧ Steps P (lone fr cs w) (lone fr' cs w')
  | [], fr, w, hm, hk, hd, hf, ⟨v, hv, hR⟩ => fun cs => ⟨fr, w, ⟨rfl, v, hR, hm, hd, hk, fn, hf, hv⟩, .refl _ _⟩
  | { target := .collected r, args := x } :: ds, fr, w, hm, hk, hd, hf, ⟨hr, he⟩ => fun cs => by
    have htake : (Instr.takeDeferred r).run P w = .ok [] { w with heap := w.heap.setIfInBounds r (.deferred none) } := by
      simp [Instr.takeDeferred, getObj, setObj, Sem.run, hr, bind, Sem.bind, pure]
    obtain ⟨fr', w', hF, hs⟩ := Steps_unwind (fn := fn) (R := R) ds { fr with defers := ds } { w with heap := w.heap.setIfInBounds r (.deferred none) } hm hk rfl hf he cs
    refine ⟨fr', w', hF, .head (step_lone_go ?_) hs⟩
    simp [stepG, hm, unwind, hd, htake]
  | { target := .fn .., .. } :: _, _, _, _, _, _, _, h => h.elim
  | { target := .nil, .. } :: _, _, _, _, _, _, _, h => h.elim
  | { target := .builtin .., .. } :: _, _, _, _, _, _, _, h => h.elim
  | { target := .coroexit _, .. } :: _, _, _, _, _, _, _, h => h.elim

section ends
variable {P : Program} {b : Frame} {k : List Item} {a : Act} {w : World} {fn : Func} {R : Value → World → Prop}
theorem E_ret (hb : b.kind = .normal) (hr : b.roundOf = none) (hf : P.funcs[b.fn]? = some fn) (h : EndOf P fn R a.tmps a.defers w) : E P (FinOf P b.fn R) b (.code .ret :: k) a w := by
  intro cs
  obtain ⟨fr', w', hF, hs⟩ := Steps_unwind (R := R) a.defers { on b a (.code .ret :: k) with mode := .returning } w rfl hb rfl hf h cs
  refine ⟨fr', w', hF, .head (step_lone_go ?_) hs⟩
  simp [stepG, stepG.exec, on, hr]
theorem E_nil (hb : b.kind = .normal) (hr : b.roundOf = none) (hf : P.funcs[b.fn]? = some fn) (h : EndOf P fn R a.tmps a.defers w) : E P (FinOf P b.fn R) b [] a w := by
  intro cs
  obtain ⟨fr', w', hF, hs⟩ := Steps_unwind (R := R) a.defers { on b a [] with mode := .returning } w rfl hb rfl hf h cs
  refine ⟨fr', w', hF, .head (step_lone_go ?_) hs⟩
  simp [stepG, stepG.exec, on, hr]

def base (f : FuncId) : Frame := { (default : Frame) with fn := f, kind := .normal }

theorem Ret_of_E {f : FuncId} {fn : Func} {c : Code} {args : Array Value} (hf : P.funcs[f]? = some fn) (hb : fn.body = some c)
    (h : E P (FinOf P f R) (base f) [.code c] { tmps := args ++ Array.replicate (fn.ntmps - args.size) undef, defers := [] } w) : Ret P f args w R := by
  intro cs
  have henter : Frame.enter P f args .normal = on (base f) { tmps := args ++ Array.replicate (fn.ntmps - args.size) undef, defers := [] } [.code c] := by
    simp [Frame.enter, on, hf, hb, base]; rfl
  obtain ⟨fr, w', ⟨hfn, v, hR, hl⟩, hs⟩ := h cs
  rw [← henter] at hs
  exact ⟨.returned v, w', fr, hR, hs, hfn, hl⟩
end ends

end Go.Sx
