/- Texts of this proof, one behind the other: Sx1, Sx2. -/
import Derived.Calls
import Derived.Orders
import Derived.RowKit3
import Derived.OwnWalk
import Derived.Below
/-
  A calculus of my own over the machine: one frame is run to its end (E), region by region, its operations in whatever order the machine draws.
-/
namespace Go.Sx
open Go.RowKit
/-! ### frames -/
def on (b : Frame) (a : Act) (todo : List Item) : Frame := { b with tmps := a.tmps, todo := todo, defers := a.defers, mode := .run }
theorem on_eval (b : Frame) (a : Act) (todo : List Item) : (on b a todo).eval = a.eval := by
  funext x; cases x <;> rfl
def E (P : Program) (F : Frame → World → Prop) (b : Frame) (todo : List Item) (a : Act) (w : World) : Prop :=
  ∀ cs, ∃ fr w', F fr w' ∧ Steps P (lone (on b a todo) cs w) (lone fr cs w')
section steps
variable {P : Program} {F : Frame → World → Prop} {b : Frame} {k : List Item} {a : Act} {w : World}
theorem E.step {todo todo' : List Item} {a' : Act} {w' : World}
    (h : E P F b todo' a' w') (hs : ∀ cs, step P (lone (on b a todo) cs w) = .next (lone (on b a' todo') cs w')) : E P F b todo a w :=
  fun cs => let ⟨fr, w'', hF, hst⟩ := h cs; ⟨fr, w'', hF, .head (hs cs) hst⟩
theorem E.steps {todo todo' : List Item} {a' : Act} {w' : World}
    (h : E P F b todo' a' w') (hs : ∀ cs, Steps P (lone (on b a todo) cs w) (lone (on b a' todo') cs w')) : E P F b todo a w :=
  fun cs => let ⟨fr, w'', hF, hst⟩ := h cs; ⟨fr, w'', hF, (hs cs).trans hst⟩
theorem E_skip (h : E P F b k a w) : E P F b (.code .skip :: k) a w :=
  h.step fun cs => step_lone_go (by simp [stepG, stepG.exec, on])
theorem E_label {l : Nat} (h : E P F b k a w) : E P F b (.code (.label l) :: k) a w :=
  h.step fun cs => step_lone_go (by simp [stepG, stepG.exec, on])
theorem E_inBlock {i : Nat} (h : E P F b k a w) : E P F b (.inBlock i :: k) a w :=
  h.step fun cs => step_lone_go (by simp [stepG, stepG.exec, on])
theorem E_inScope {c : Code} (h : E P F b k a w) : E P F b (.inScope c :: k) a w :=
  h.step fun cs => step_lone_go (by simp [stepG, stepG.exec, on])
theorem E_seq {x y : Code} (h : E P F b (.code x :: .code y :: k) a w) : E P F b (.code (.seq x y) :: k) a w :=
  h.step fun cs => step_lone_go (by simp [stepG, stepG.exec, on])
theorem E_block {i : Nat} {c : Code} (h : E P F b (.code c :: .inBlock i :: k) a w) : E P F b (.code (.block i c) :: k) a w :=
  h.step fun cs => step_lone_go (by simp [stepG, stepG.exec, on])
theorem E_scope {c : Code} (h : E P F b (.code c :: .inScope c :: k) a w) : E P F b (.code (.scope c) :: k) a w :=
  h.step fun cs => step_lone_go (by simp [stepG, stepG.exec, on])
theorem E_loop {c : Code} (h : E P F b (.code c :: .inLoop c :: k) a w) : E P F b (.code (.loop c) :: k) a w :=
  h.step fun cs => step_lone_go (by simp [stepG, stepG.exec, on])
theorem E_inLoop {c : Code} (h : E P F b (.code c :: .inLoop c :: k) a w) : E P F b (.inLoop c :: k) a w :=
  h.step fun cs => step_lone_go (by simp [stepG, stepG.exec, on])
theorem E_exit {i : Nat} {k' : List Item} (hk : exitTo i k = some k') (h : E P F b k' a w) : E P F b (.code (.exit i) :: k) a w :=
  h.step fun cs => step_lone_go (by simp [stepG, stepG.exec, on, hk])
theorem E_cond {c : Operand} {x y : Code} {t : Bool} (hc : a.eval c = .bool t) (h : E P F b (.code (if t then x else y) :: k) a w) : E P F b (.code (.cond c x y) :: k) a w :=
  h.step fun cs => step_lone_go (by
    have := congrFun (on_eval b a (.code (.cond c x y) :: k)) c
    simp only [on] at this
    simp [stepG, stepG.exec, on, this, hc])
end steps
/-! ### what an operation comes to -/
def Rnd (P : Program) (l f : Nat) (tmps : Array Value) (assign body : Code) (w : World) (R : Value → World → Prop) : Prop :=
  ∀ (c : Frame) (cs : List Frame), ∃ v w', R v w' ∧ Steps P (lone (Frame.round l f tmps assign body .normal) (c :: cs) w) (lone (c.finish v) cs w')
def Ret (P : Program) (f : FuncId) (args : Array Value) (w : World) (R : Value → World → Prop) : Prop :=
  Calls P f args w fun e w' => match e with | .returned v => R v w' | _ => False
def NextOk (P : Program) (r : Result Next) (R : Value → World → Prop) : Prop :=
  match r with
  | .ok (.value v) w' => R v w'
  | .ok .skip w' => R undef w'
  | .ok (.enter f args) w' => Ret P f args w' R
  | .ok (.round l f tmps assign body) w' => Rnd P l f tmps assign body w' R
  | .ok (.row row args) w' => Rows P row args w' R
  | _ => False
theorem Ret.mono {P : Program} {f : FuncId} {args : Array Value} {w : World} {R R' : Value → World → Prop} (h : Ret P f args w R) (hr : ∀ v w', R v w' → R' v w') : Ret P f args w R' :=
  Calls.mono h fun e w' he => by cases e <;> first | exact hr _ _ he | exact he
theorem Rnd.mono {P : Program} {l f : Nat} {tmps : Array Value} {assign body : Code} {w : World} {R R' : Value → World → Prop} (h : Rnd P l f tmps assign body w R) (hr : ∀ v w', R v w' → R' v w') : Rnd P l f tmps assign body w R' :=
  fun c cs => let ⟨v, w', r, s⟩ := h c cs; ⟨v, w', hr _ _ r, s⟩
theorem NextOk.mono {P : Program} {r : Result Next} {R R' : Value → World → Prop} (h : NextOk P r R) (hr : ∀ v w', R v w' → R' v w') : NextOk P r R' := by
  cases r with
  | halt x w' => exact h.elim
  | ok n w' =>
    cases n <;> simp only [NextOk] at h ⊢ <;> first | exact hr _ _ h | exact h.mono hr | exact Rows.mono h hr | exact h.elim
def Oper.isDefer (o : Oper) : Bool := match o.op with | .defer _ => true | _ => false
theorem E_op {P : Program} {F : Frame → World → Prop} {b : Frame} {k : List Item} {a : Act} {w : World} {ops : Array Oper} {i : Nat} {rest : List Nat} {o : Oper}
    (_hb : b.kind = .normal) (ho : ops[i]? = some o) (hw : Region.wanted o (yielded ops a.tmps) = true) (hd : Oper.isDefer o = false)
    (h : NextOk P ((execOp a.eval o).run P w) fun v w' => E P F b (.inRegion ops rest :: k) (a.put o.dst v) w') :
    E P F b (.inRegion ops (i :: rest) :: k) a w := by
  have he := on_eval b a (.inRegion ops (i :: rest) :: k)
  have hop : (on b a (.inRegion ops (i :: rest) :: k)).oper? = some o := by simp [on, Frame.oper?, ho]
  have hfin : ∀ v, (on b a (.inRegion ops (i :: rest) :: k)).finish v = on b (a.put o.dst v) (.inRegion ops rest :: k) := by
    intro v
    cases hdst : o.dst <;> simp [Frame.finish, on, Act.put, ho, hdst]
  have hg : ∀ cs, stepG P true { frame := on b a (.inRegion ops (i :: rest) :: k), callers := cs, status := .running, dying := none } w =
      stepG.apply P true (on b a (.inRegion ops (i :: rest) :: k)) cs none (execOp a.eval o) w := by
    intro cs
    have hm : (on b a (.inRegion ops (i :: rest) :: k)).mode = .run := rfl
    simp only [stepG, hm]
    have ht : (on b a (.inRegion ops (i :: rest) :: k)).todo = .inRegion ops (i :: rest) :: k := rfl
    have htm : (on b a (.inRegion ops (i :: rest) :: k)).tmps = a.tmps := rfl
    simp only [stepG.exec, ht, htm, ho, Option.map_some, hw, Option.getD_some, if_true, stepG.oper, hop, he]
    cases hr : (on b a (.inRegion ops (i :: rest) :: k)).roundOf with
    | none => rfl
    | some l =>
      cases hoo : o.op <;> simp [Oper.isDefer, hoo] at hd <;> rfl
  intro cs
  have hkind : (match (on b a (.inRegion ops (i :: rest) :: k)).todo with | .call _ true _ _ :: _ => CallKind.wrapped | _ => CallKind.normal) = .normal := rfl
  cases hrun : (execOp a.eval o).run P w with
  | halt x w' => rw [hrun] at h; exact h.elim
  | ok n w' =>
    rw [hrun] at h
    cases n <;> simp only [NextOk] at h <;> first
      | exact h.elim
      | skip
    case value v =>
      obtain ⟨fr, w'', hF, hs⟩ := h cs
      refine ⟨fr, w'', hF, .head (step_lone_go ?_) hs⟩
      rw [hg, ← hfin]; simp [stepG.apply, hrun]
    case skip =>
      obtain ⟨fr, w'', hF, hs⟩ := h cs
      refine ⟨fr, w'', hF, .head (step_lone_go ?_) hs⟩
      rw [hg, ← hfin]; simp [stepG.apply, hrun]
    case enter f args =>
      obtain ⟨e, w'', fr, hR, hcomes, _, hleave⟩ := h (on b a (.inRegion ops (i :: rest) :: k) :: cs)
      have henter : step P (lone (on b a (.inRegion ops (i :: rest) :: k)) cs w) = .next (lone (Frame.enter P f args .normal) (on b a (.inRegion ops (i :: rest) :: k) :: cs) w') :=
        step_lone_go (by rw [hg]; simp [stepG.apply, hrun, on])
      cases e with
      | returned v =>
        obtain ⟨fr2, w3, hF, hs⟩ := hR cs
        refine ⟨fr2, w3, hF, .head henter (Steps.trans hcomes (.head ?_ hs))⟩
        rw [← hfin]; exact step_leave_returned hleave
      | panicked c => exact hR.elim
      | outgrown => exact hR.elim
    case round l f tmps assign body =>
      obtain ⟨v, w'', hR, hsteps⟩ := h (on b a (.inRegion ops (i :: rest) :: k)) cs
      obtain ⟨fr2, w3, hF, hs⟩ := hR cs
      have henter : step P (lone (on b a (.inRegion ops (i :: rest) :: k)) cs w) = .next (lone (Frame.round l f tmps assign body .normal) (on b a (.inRegion ops (i :: rest) :: k) :: cs) w') :=
        step_lone_go (by rw [hg]; simp [stepG.apply, hrun, on])
      refine ⟨fr2, w3, hF, .head henter (hsteps.trans ?_)⟩
      rw [hfin]; exact hs
    case row row args =>
      obtain ⟨v, w'', hR, hsteps⟩ := h (on b a (.inRegion ops (i :: rest) :: k)) cs
      obtain ⟨fr2, w3, hF, hs⟩ := hR cs
      have henter : step P (lone (on b a (.inRegion ops (i :: rest) :: k)) cs w) = .next (lone (Frame.ofRow P row args .normal) (on b a (.inRegion ops (i :: rest) :: k) :: cs) w') :=
        step_lone_go (by rw [hg]; simp [stepG.apply, hrun, on])
      refine ⟨fr2, w3, hF, .head henter (hsteps.trans ?_)⟩
      rw [hfin]; exact hs
section region
variable {P : Program} {F : Frame → World → Prop} {b : Frame} {k : List Item} {a : Act} {w : World} {ops : Array Oper}
theorem E_op_skip {i : Nat} {rest : List Nat} (hw : ((ops[i]?).map (Region.wanted · (yielded ops a.tmps))).getD false = false)
    (h : E P F b (.inRegion ops rest :: k) (a.put ((ops[i]?).bind (·.dst)) undef) w) : E P F b (.inRegion ops (i :: rest) :: k) a w := by
  refine h.step fun cs => step_lone_go ?_
  have hfin : (on b a (.inRegion ops (i :: rest) :: k)).finish undef = on b (a.put ((ops[i]?).bind (·.dst)) undef) (.inRegion ops rest :: k) := by
    cases hdst : (ops[i]?).bind (·.dst) <;> simp [Frame.finish, on, Act.put, hdst]
  rw [← hfin]
  simp only [on] at *
  simp [stepG, stepG.exec, hw]
theorem E_region_end (h : E P F b k a w) : E P F b (.inRegion ops [] :: k) a w :=
  h.step fun cs => step_lone_go (by simp [stepG, stepG.exec, on])
theorem E_region {id : Nat} (h : E P F b (.inRegion ops (List.range ops.size) :: k) a w) : E P F b (.code (.region id ops false) :: k) a w :=
  h.step fun cs => step_lone_go (by simp [stepG, stepG.exec, on])
theorem E_region_draw {id : Nat} (h : ∀ t, E P F b (.inRegion ops (Region.schedule (P.follows .mixedOrders) ops t) :: k) a { w with drawn := w.drawn + 1 }) :
    E P F b (.code (.region id ops true) :: k) a w :=
  (h (w.tape w.drawn (.order b.fn id))).step fun cs => step_lone_go (by simp [stepG, stepG.exec, on, choose, Sem.run, Question.forced, Question.cut])
end region
/-! ### the beginning and the end of a call -/
def EndOf (P : Program) (fn : Func) (R : Value → World → Prop) (tmps : Array Value) : List Deferred → World → Prop
  | [], w => ∃ v, (results fn tmps).run P w = .ok v w ∧ R v w
  | { target := .collected r, .. } :: ds, w => w.heap[r]? = some (.deferred (some [])) ∧ EndOf P fn R tmps ds { w with heap := w.heap.setIfInBounds r (.deferred none) }
  | _ :: _, _ => False
def FinOf (P : Program) (f : FuncId) (R : Value → World → Prop) (fr : Frame) (w : World) : Prop :=
  fr.fn = f ∧ ∃ v, R v w ∧ fr.leaving P w (.returned v)
theorem Steps_unwind {P : Program} {fn : Func} {R : Value → World → Prop} : ∀ (ds : List Deferred) (fr : Frame) (w : World), fr.mode = .returning → fr.kind = .normal → fr.defers = ds → P.funcs[fr.fn]? = some fn →
    EndOf P fn R fr.tmps ds w → ∀ cs, ∃ fr' w', FinOf P fr.fn R fr' w' ∧ Steps P (lone fr cs w) (lone fr' cs w')
  | [], fr, w, hm, hk, hd, hf, ⟨v, hv, hR⟩ => fun cs => ⟨fr, w, ⟨rfl, v, hR, hm, hd, hk, fn, hf, hv⟩, .refl _ _⟩
  | { target := .collected r, args := x } :: ds, fr, w, hm, hk, hd, hf, ⟨hr, he⟩ => fun cs => by
    have htake : (Instr.takeDeferred r).run P w = .ok [] { w with heap := w.heap.setIfInBounds r (.deferred none) } := by
      simp [Instr.takeDeferred, getObj, setObj, Sem.run, hr, bind, Sem.bind, pure]
    obtain ⟨fr', w', hF, hs⟩ := Steps_unwind (fn := fn) (R := R) ds { fr with defers := ds } { w with heap := w.heap.setIfInBounds r (.deferred none) } hm hk rfl hf he cs
    refine ⟨fr', w', hF, .head (step_lone_go ?_) hs⟩
    simp [stepG, hm, unwind, hd, htake]
  | { target := .fn .., .. } :: _, _, _, _, _, _, _, h => h.elim
  | { target := .nil, .. } :: _, _, _, _, _, _, _, h => h.elim
  | { target := .builtin .., .. } :: _, _, _, _, _, _, _, h => h.elim
  | { target := .coroexit _, .. } :: _, _, _, _, _, _, _, h => h.elim
section ends
variable {P : Program} {b : Frame} {k : List Item} {a : Act} {w : World} {fn : Func} {R : Value → World → Prop}
theorem E_ret (hb : b.kind = .normal) (hr : b.roundOf = none) (hf : P.funcs[b.fn]? = some fn) (h : EndOf P fn R a.tmps a.defers w) : E P (FinOf P b.fn R) b (.code .ret :: k) a w := by
  intro cs
  obtain ⟨fr', w', hF, hs⟩ := Steps_unwind (R := R) a.defers { on b a (.code .ret :: k) with mode := .returning } w rfl hb rfl hf h cs
  refine ⟨fr', w', hF, .head (step_lone_go ?_) hs⟩
  simp [stepG, stepG.exec, on, hr]
theorem E_nil (hb : b.kind = .normal) (hr : b.roundOf = none) (hf : P.funcs[b.fn]? = some fn) (h : EndOf P fn R a.tmps a.defers w) : E P (FinOf P b.fn R) b [] a w := by
  intro cs
  obtain ⟨fr', w', hF, hs⟩ := Steps_unwind (R := R) a.defers { on b a [] with mode := .returning } w rfl hb rfl hf h cs
  refine ⟨fr', w', hF, .head (step_lone_go ?_) hs⟩
  simp [stepG, stepG.exec, on, hr]
def base (f : FuncId) : Frame := { (default : Frame) with fn := f, kind := .normal }
theorem Ret_of_E {f : FuncId} {fn : Func} {c : Code} {args : Array Value} (hf : P.funcs[f]? = some fn) (hb : fn.body = some c)
    (h : E P (FinOf P f R) (base f) [.code c] { tmps := args ++ Array.replicate (fn.ntmps - args.size) undef, defers := [] } w) : Ret P f args w R := by
  intro cs
  have henter : Frame.enter P f args .normal = on (base f) { tmps := args ++ Array.replicate (fn.ntmps - args.size) undef, defers := [] } [.code c] := by
    simp [Frame.enter, on, hf, hb, base]; rfl
  obtain ⟨fr, w', ⟨hfn, v, hR, hl⟩, hs⟩ := h cs
  rw [← henter] at hs
  exact ⟨.returned v, w', fr, hR, hs, hfn, hl⟩
end ends
end Go.Sx
/-
  A region whose order the machine draws, run in one order of mine: what only looks goes as early as it can; behind each operation that acts, what has only looked, and need not have come before it, must look the same.
-/
namespace Go.Sx
inductive Tr where
  | nil
  | st (i : Nat) (n : Tr)
  | ld (i : Nat) (pend : List Nat) (n : Tr)
  | br (l r : Tr)
section
variable (P : Program) (F : Frame → World → Prop) (b : Frame) (k : List Item) (ops : Array Oper)
def Rc1 (o : Oper) (a : Act) (w : World) : Prop :=
  (Region.wanted o (yielded ops a.tmps) = true → ∃ v, (execOp a.eval o).run P w = .ok (.value v) w ∧ a.put o.dst v = a) ∧
  (Region.wanted o (yielded ops a.tmps) = false → a.put o.dst undef = a)
def Rc (i : Nat) (a : Act) (w : World) : Prop := ∀ o, ops[i]? = some o → Rc1 P ops o a w
def ET : Tr → Act → World → Prop
  | .nil, a, w => E P F b k a w
  | .st i n, a, w => ∃ o, ops[i]? = some o ∧
      (Region.wanted o (yielded ops a.tmps) = true → ∃ v, (execOp a.eval o).run P w = .ok (.value v) w ∧ ET n (a.put o.dst v) w) ∧
      (Region.wanted o (yielded ops a.tmps) = false → ET n (a.put o.dst undef) w)
  | .ld i pend n, a, w => ∃ o, ops[i]? = some o ∧ Oper.isDefer o = false ∧
      (Region.wanted o (yielded ops a.tmps) = true → NextOk P ((execOp a.eval o).run P w) fun v w' => (∀ j ∈ pend, Rc P ops j (a.put o.dst v) w') ∧ ET n (a.put o.dst v) w') ∧
      (Region.wanted o (yielded ops a.tmps) = false → (∀ j ∈ pend, Rc P ops j (a.put o.dst undef) w) ∧ ET n (a.put o.dst undef) w)
  | .br l r, a, w => ET l a w ∧ ET r a w
end
/-! ### the checks on the text -/
def deps (o : Oper) : List Nat := (o.after.toList.filter (Region.binds .any)).map (·.on)
def depsAt (ops : Array Oper) (i : Nat) : List Nat := ((ops[i]?).map deps).getD []
def dstAt (ops : Array Oper) (i : Nat) : Option Tmp := (ops[i]?).bind (·.dst)
def looks (ops : Array Oper) (i : Nat) : List Tmp := ((ops[i]?).map (·.looksAt ops)).getD []
def heads : Tr → List Nat
  | .ld i _ _ => [i]
  | .br l r => heads l ++ heads r
  | _ => []
def rdy (ops : Array Oper) (done : List Nat) (i : Nat) : Bool := (depsAt ops i).all done.contains
section
variable (ops : Array Oper) (louds : List Nat)
def needs : Nat → Nat → Nat → Bool
  | 0, _, _ => false
  | f + 1, i, j => (depsAt ops i).any fun x => Nat.beq x j || (Nat.blt j x && needs f x j)
def pre (done hs : List Nat) : Bool := (List.range ops.size).all fun j => done.contains j || !rdy ops done j || hs.contains j
def okT : Bool → List Nat → Tr → Bool
  | f, done, .nil => !f && (List.range ops.size).all done.contains
  | f, done, .st i n => !f && decide (i < ops.size) && !louds.contains i && !done.contains i && rdy ops done i && okT false (i :: done) n
  | f, done, .ld i p n => (f || pre ops done [i]) && decide (i < ops.size) && louds.contains i && !done.contains i && rdy ops done i &&
      (done.all fun j => louds.contains j || (depsAt ops i).contains j || p.contains j || needs ops ops.size i j) && okT false (i :: done) n
  | f, done, .br l r => (f || pre ops done (heads l ++ heads r)) && okT true done l && okT true done r
def okR : Bool :=
  (List.range ops.size).all fun i =>
    (depsAt ops i).all (fun j => decide (j < i)) &&
    match dstAt ops i with
    | none => true
    | some d => (List.range ops.size).all fun j => (i == j || dstAt ops j != some d) && (louds.contains i || !(looks ops j).contains d || (depsAt ops j).contains i)
end
/-! ### what the checks give -/
structure Ok (ops : Array Oper) (louds : List Nat) : Prop where
  lt : ∀ i, i < ops.size → ∀ j ∈ depsAt ops i, j < i
  dst : ∀ i j d, i < ops.size → j < ops.size → i ≠ j → dstAt ops i = some d → dstAt ops j ≠ some d
  look : ∀ i j d, i < ops.size → j < ops.size → i ∉ louds → dstAt ops i = some d → d ∈ looks ops j → i ∈ depsAt ops j
theorem needs_listed {ops : Array Oper} {listed : Array Bool} (cl : ∀ i, listed.getD i false = true → ∀ j ∈ depsAt ops i, listed.getD j false = true) : ∀ (f i j : Nat), (∀ x ∈ depsAt ops i, listed.getD x false = true) → needs ops f i j = true → listed.getD j false = true
  | 0, _, _, _, h => by cases h
  | f + 1, i, j, hi, h => by
    simp only [needs, List.any_eq_true, Bool.or_eq_true, Bool.and_eq_true] at h
    obtain ⟨x, hx, h | ⟨_, h⟩⟩ := h
    · rw [← Nat.eq_of_beq_eq_true h]; exact hi x hx
    · exact needs_listed cl f x j (cl x (hi x hx)) h
theorem Ok.of {ops : Array Oper} {louds : List Nat} (h : okR ops louds = true) : Ok ops louds := by
  simp only [okR, List.all_eq_true, List.mem_range, Bool.and_eq_true] at h
  refine ⟨fun i hi j hj => by simpa using (h i hi).1 j hj, fun i j d hi hj hne hd => ?_, fun i j d hi hj hl hd hm => ?_⟩
  · have := (h i hi).2
    rw [hd] at this
    simp only [List.all_eq_true, List.mem_range, Bool.and_eq_true, Bool.or_eq_true] at this
    have h1 := (this j hj).1
    rcases h1 with h1 | h1
    · exact absurd (by simpa using h1) hne
    · simpa using h1
  · have := (h i hi).2
    rw [hd] at this
    simp only [List.all_eq_true, List.mem_range, Bool.and_eq_true, Bool.or_eq_true] at this
    rcases (this j hj).2 with (h1 | h1) | h1
    · exact absurd (by simpa using h1) hl
    · simp [hm] at h1
    · simpa using h1
section sim
variable {P : Program} {F : Frame → World → Prop} {b : Frame} {k : List Item} {ops : Array Oper} {louds : List Nat}
theorem eval_agree {o : Oper} {a a' : Act} (h : ∀ t ∈ o.looksAt ops, a.tmps[t]? = a'.tmps[t]?) : ∀ x ∈ o.op.operands, a.eval x = a'.eval x := by
  intro x hx
  cases x with
  | tmp t =>
    have := h t (List.mem_append_left _ (List.mem_filterMap.2 ⟨.tmp t, by simpa using hx, rfl⟩))
    simp only [Act.eval, Array.getD_eq_getD_getElem?, this]
  | _ => rfl
theorem yielded_agree {o : Oper} {a a' : Act} (h : ∀ t ∈ o.looksAt ops, a.tmps[t]? = a'.tmps[t]?) :
    Region.wanted o (yielded ops a.tmps) = Region.wanted o (yielded ops a'.tmps) := by
  cases hg : o.guard with
  | none => simp [Region.wanted, hg]
  | some g =>
    obtain ⟨j, want⟩ := g
    have : yielded ops a.tmps j = yielded ops a'.tmps j := by
      unfold yielded
      cases hd : (ops[j]?).bind (·.dst) with
      | none => simp
      | some d =>
        have := h d (List.mem_append_right _ (by simp [hg, hd]))
        simp [this]
    simp [Region.wanted, hg, this]
def NoSelect (ops : Array Oper) : Prop := ∀ (i : Nat) (o : Oper), ops[i]? = some o → ∀ cs bl, o.op ≠ Op.select cs bl
theorem exec_agree {o : Oper} {a a' : Act} (hs : ∀ cs bl, o.op ≠ .select cs bl) (h : ∀ t ∈ o.looksAt ops, a.tmps[t]? = a'.tmps[t]?) : execOp a.eval o = execOp a'.eval o :=
  execOp_congr o hs (eval_agree h)
structure Inv (P : Program) (F : Frame → World → Prop) (b : Frame) (k : List Item) (ops : Array Oper) (louds : List Nat) (listed : Array Bool) (done : List Nat) (as ac : Act) (w : World) (t : Tr) : Prop where
  sz : listed.size = ops.size
  sub : ∀ i, listed.getD i false = true → i ∈ done
  lt : ∀ i ∈ done, i < ops.size
  loud : ∀ i ∈ done, i ∈ louds → listed.getD i false = true
  cl : ∀ i, listed.getD i false = true → ∀ j ∈ depsAt ops i, listed.getD j false = true
  cd : ∀ i ∈ done, ∀ j ∈ depsAt ops i, j ∈ done
  defers : ac.defers = as.defers
  size : ac.tmps.size = as.tmps.size
  agree : ∀ t : Nat, (∀ i ∈ done, listed.getD i false = false → dstAt ops i ≠ some t) → ac.tmps[t]? = as.tmps[t]?
  rc : ∀ i ∈ done, listed.getD i false = false → Rc P ops i ac w
  ok : okT ops louds false done t = true
  et : ET P F b k ops t ac w
theorem put_same_of {a : Act} {d : Option Tmp} {v : Value} (h : ∀ t, d = some t → t < a.tmps.size → a.tmps[t]? = some v) : a.put d v = a := by
  cases d with
  | none => rfl
  | some t =>
    obtain ⟨tm, df⟩ := a
    simp only [Act.put, Act.mk.injEq, and_true]
    apply Array.ext_getElem?
    intro i
    rw [Array.getElem?_setIfInBounds]
    split
    · rename_i he
      subst he
      split
      · rename_i hlt
        exact (h t rfl hlt).symm
      · rename_i hge
        simp at hge
        simp [hge]
    · rfl
theorem put_put (a : Act) (d : Option Tmp) (v : Value) : (a.put d v).put d v = a.put d v := by
  apply put_same_of
  intro t hd hlt
  subst hd
  simp only [Act.put] at hlt ⊢
  simp at hlt
  simp [hlt]
theorem put_tmps_other {a : Act} {d : Option Tmp} {v : Value} {t : Nat} (h : d ≠ some t) : (a.put d v).tmps[t]? = a.tmps[t]? := by
  cases d with
  | none => rfl
  | some d =>
    have : d ≠ t := fun e => h (by rw [e])
    simp [Act.put, Array.getElem?_setIfInBounds_ne this]
theorem put_size (a : Act) (d : Option Tmp) (v : Value) : (a.put d v).tmps.size = a.tmps.size := by cases d <;> simp [Act.put]
theorem put_defers (a : Act) (d : Option Tmp) (v : Value) : (a.put d v).defers = a.defers := by cases d <;> rfl
theorem Rc_put {i j : Nat} {o : Oper} {a : Act} {w : World} {v : Value} (hok : Ok ops louds) (hns : NoSelect ops) (hj : ops[j]? = some o) (hi : i < ops.size) (hjl : j ∉ louds) (hne : i ≠ j) (hnd : j ∉ depsAt ops i)
    (h : Rc P ops i a w) : Rc P ops i (a.put o.dst v) w := by
  intro oi hoi
  obtain ⟨h1, h2⟩ := h oi hoi
  have hjlt : j < ops.size := (Array.getElem?_eq_some_iff.1 hj).1
  have hnl : ∀ t ∈ oi.looksAt ops, (a.put o.dst v).tmps[t]? = a.tmps[t]? := by
    intro t ht
    apply put_tmps_other
    intro hd
    exact hnd (hok.look j i t hjlt hi hjl (by simp [dstAt, hj, hd]) (by simp [looks, hoi, ht]))
  have hw := yielded_agree (ops := ops) (o := oi) hnl
  have hx := exec_agree (ops := ops) (o := oi) (hns i oi hoi) hnl
  have hdd : ∀ u d, oi.dst = some d → a.put oi.dst u = a → (a.put o.dst v).put oi.dst u = a.put o.dst v := by
    intro u d hd hu
    rw [← Act.put_comm a u v (fun d' hd' hd'' => hok.dst i j d' hi hjlt hne (by simp [dstAt, hoi, hd']) (by simp [dstAt, hj, hd''])), hu]
  refine ⟨fun hwt => ?_, fun hwf => ?_⟩
  · rw [hw] at hwt
    obtain ⟨u, hu, hp⟩ := h1 hwt
    refine ⟨u, by rw [hx]; exact hu, ?_⟩
    cases hd : oi.dst with
    | none => rfl
    | some d => rw [← hd]; exact hdd u d hd hp
  · rw [hw] at hwf
    have hp := h2 hwf
    cases hd : oi.dst with
    | none => rfl
    | some d => rw [← hd]; exact hdd _ d hd hp
theorem Inv.still {listed : Array Bool} {done : List Nat} {as ac : Act} {w : World} {j : Nat} {n : Tr} (hok : Ok ops louds) (hns : NoSelect ops)
    (h : Inv P F b k ops louds listed done as ac w (.st j n)) : ∃ ac', Inv P F b k ops louds listed (j :: done) as ac' w n := by
  have hk := h.ok
  simp only [okT, Bool.and_eq_true, Bool.not_eq_true', decide_eq_true_eq] at hk
  obtain ⟨⟨⟨⟨⟨_, hlt⟩, hnl⟩, hnd⟩, hr⟩, hn⟩ := hk
  have hnl' : j ∉ louds := by simpa using hnl
  have hnd' : j ∉ done := by simpa using hnd
  have hr' : ∀ x ∈ depsAt ops j, x ∈ done := by simpa [rdy] using hr
  have hlj : listed.getD j false = false := by
    cases hl : listed.getD j false with
    | false => rfl
    | true => exact absurd (h.sub j hl) hnd'
  obtain ⟨o, ho, het, hef⟩ := h.et
  -- whichever way, some value is put
  have main : ∀ v, (Rc P ops j (ac.put o.dst v) w) → ET P F b k ops n (ac.put o.dst v) w → ∃ ac', Inv P F b k ops louds listed (j :: done) as ac' w n := by
    intro v hrc hE
    refine ⟨ac.put o.dst v, h.sz, fun i hi => List.mem_cons_of_mem _ (h.sub i hi), ?_, ?_, h.cl, ?_, by rw [put_defers]; exact h.defers, by rw [put_size]; exact h.size, ?_, ?_, hn, hE⟩
    · intro i hi
      rcases List.mem_cons.1 hi with rfl | hi
      · exact hlt
      · exact h.lt i hi
    · intro i hi hl
      rcases List.mem_cons.1 hi with rfl | hi
      · exact absurd hl hnl'
      · exact h.loud i hi hl
    · intro i hi x hx
      rcases List.mem_cons.1 hi with rfl | hi
      · exact List.mem_cons_of_mem _ (hr' x hx)
      · exact List.mem_cons_of_mem _ (h.cd i hi x hx)
    · intro t ht
      rw [put_tmps_other (by have := ht j (by simp) hlj; simpa [dstAt, ho] using this)]
      exact h.agree t fun i hi => ht i (List.mem_cons_of_mem _ hi)
    · intro i hi hli
      rcases List.mem_cons.1 hi with rfl | hi
      · exact hrc
      · exact Rc_put hok hns ho (h.lt i hi) hnl' (fun e => hnd' (e ▸ hi)) (fun e => hnd' (h.cd i hi j e)) (h.rc i hi hli)
  have self : ∀ v t, t ∈ o.looksAt ops → (ac.put o.dst v).tmps[t]? = ac.tmps[t]? := by
    intro v t ht
    apply put_tmps_other
    intro hd
    have := hok.look j j t hlt hlt hnl' (by simp [dstAt, ho, hd]) (by simp [looks, ho, ht])
    exact absurd (hok.lt j hlt j this) (Nat.lt_irrefl _)
  cases hw : Region.wanted o (yielded ops ac.tmps) with
  | true =>
    obtain ⟨v, hv, hE⟩ := het hw
    refine main v ?_ hE
    intro o' ho'
    rw [ho] at ho'; cases ho'
    refine ⟨fun _ => ⟨v, by rw [exec_agree (ops := ops) (hns j o ho) (self v)]; exact hv, put_put _ _ _⟩, fun hf => ?_⟩
    rw [yielded_agree (self v), hw] at hf; cases hf
  | false =>
    refine main undef ?_ (hef hw)
    intro o' ho'
    rw [ho] at ho'; cases ho'
    refine ⟨fun hf => ?_, fun _ => put_put _ _ _⟩
    rw [yielded_agree (self undef), hw] at hf; cases hf
theorem heads_node {P : Program} {F : Frame → World → Prop} {b : Frame} {k : List Item} {done : List Nat} {a : Act} {w : World} {i : Nat} : ∀ {t : Tr}, i ∈ heads t → okT ops louds true done t = true → ET P F b k ops t a w →
    ∃ p n, okT ops louds true done (.ld i p n) = true ∧ ET P F b k ops (.ld i p n) a w
  | .nil, h, _, _ => by simp [heads] at h
  | .st .., h, _, _ => by simp [heads] at h
  | .ld j p n, h, ho, he => by
    simp only [heads, List.mem_singleton] at h
    subst h
    exact ⟨p, n, ho, he⟩
  | .br l r, h, ho, he => by
    simp only [okT, Bool.true_or, Bool.true_and, Bool.and_eq_true] at ho
    rcases List.mem_append.1 h with h | h
    · exact heads_node h ho.1 he.1
    · exact heads_node h ho.2 he.2
theorem Inv.adv {listed : Array Bool} {as : Act} {w : World} {i : Nat} (hok : Ok ops louds) (hns : NoSelect ops) (hi : i < ops.size) (hr : ∀ j ∈ depsAt ops i, listed.getD j false = true) :
    ∀ (t : Tr) (done : List Nat) (ac : Act), Inv P F b k ops louds listed done as ac w t →
      (∃ done' ac' t', Inv P F b k ops louds listed done' as ac' w t' ∧ i ∈ done') ∨
      (∃ done' ac' t' p n, Inv P F b k ops louds listed done' as ac' w t' ∧ i ∉ done' ∧ okT ops louds true done' (.ld i p n) = true ∧ ET P F b k ops (.ld i p n) ac' w)
  | .nil, done, ac, h => by
    have hk := h.ok
    simp only [okT, Bool.and_eq_true, List.all_eq_true, List.mem_range] at hk
    exact .inl ⟨done, ac, _, h, by simpa using hk.2 i hi⟩
  | .st j n, done, ac, h => by
    obtain ⟨ac', h'⟩ := h.still hok hns
    exact Inv.adv hok hns hi hr n _ ac' h'
  | .ld j p n, done, ac, h => by
    by_cases hd : i ∈ done
    · exact .inl ⟨done, ac, _, h, hd⟩
    · have hk := h.ok
      simp only [okT, Bool.false_or, Bool.and_eq_true] at hk
      obtain ⟨⟨⟨⟨⟨⟨hp, h1⟩, h2⟩, h3⟩, h4⟩, h5⟩, h6⟩ := hk
      have hp' := hp
      simp only [pre, List.all_eq_true, List.mem_range, Bool.or_eq_true] at hp'
      have hih : i = j := by
        rcases hp' i hi with (hx | hx) | hx
        · exact absurd (by simpa using hx) hd
        · have : rdy ops done i = true := by
            simp only [rdy, List.all_eq_true]
            intro x hx'; simpa using h.sub x (hr x hx')
          simp [this] at hx
        · simpa using hx
      subst hih
      exact .inr ⟨done, ac, _, p, n, h, hd, by simp only [okT, Bool.true_or, h1, h2, h3, h4, h5, h6, Bool.and_self], h.et⟩
  | .br l r, done, ac, h => by
    by_cases hd : i ∈ done
    · exact .inl ⟨done, ac, _, h, hd⟩
    · have hk := h.ok
      simp only [okT, Bool.false_or, Bool.and_eq_true] at hk
      obtain ⟨⟨hp, h1⟩, h2⟩ := hk
      have hp' := hp
      simp only [pre, List.all_eq_true, List.mem_range, Bool.or_eq_true] at hp'
      have hih : i ∈ heads (.br l r) := by
        rcases hp' i hi with (hx | hx) | hx
        · exact absurd (by simpa using hx) hd
        · have : rdy ops done i = true := by
            simp only [rdy, List.all_eq_true]
            intro x hx'; simpa using h.sub x (hr x hx')
          simp [this] at hx
        · simpa [heads] using hx
      obtain ⟨p, n, hn, he⟩ := heads_node (louds := louds) (done := done) hih (by simp only [okT, Bool.true_or, h1, h2, Bool.and_self]) h.et
      exact .inr ⟨done, ac, _, p, n, h, hd, hn, he⟩
theorem getD_set {listed : Array Bool} {i j : Nat} (hi : i < listed.size) : (listed.setIfInBounds i true).getD j false = (if i = j then true else listed.getD j false) := by
  simp only [Array.getD_eq_getD_getElem?, Array.getElem?_setIfInBounds]
  rw [if_pos hi]
  split <;> rfl
def left (n : Nat) (listed : Array Bool) : Nat := ((List.range n).filter fun i => !listed.getD i false).length
theorem left_set {n : Nat} {listed : Array Bool} {i : Nat} (hs : listed.size = n) (hi : i < n) (hl : listed.getD i false = false) : left n (listed.setIfInBounds i true) < left n listed := by
  unfold left
  have : ∀ l : List Nat, (l.filter fun j => !(listed.setIfInBounds i true).getD j false).length ≤ (l.filter fun j => !listed.getD j false).length ∧
      (i ∈ l → (l.filter fun j => !(listed.setIfInBounds i true).getD j false).length < (l.filter fun j => !listed.getD j false).length) := by
    intro l
    induction l with
    | nil => simp
    | cons x l ih =>
      simp only [List.filter_cons, getD_set (hs ▸ hi : i < listed.size), List.mem_cons]
      by_cases hx : i = x
      · subst hx
        simp only [if_true, hl, Bool.not_true, Bool.not_false, List.length_cons, Bool.false_eq_true, if_false]
        simp only [getD_set (hs ▸ hi : i < listed.size)] at ih
        exact ⟨by have := ih.1; omega, fun _ => by have := ih.1; omega⟩
      · simp only [if_neg hx]
        simp only [getD_set (hs ▸ hi : i < listed.size)] at ih
        cases hh : listed.getD x false
        · simp only [Bool.not_false, if_true, List.length_cons]
          exact ⟨by have := ih.1; omega, fun h => by have := ih.2 (h.resolve_left hx); omega⟩
        · simp only [Bool.not_true, Bool.false_eq_true, if_false]
          exact ⟨ih.1, fun h => ih.2 (h.resolve_left hx)⟩
  exact (this (List.range n)).2 (List.mem_range.2 hi)
theorem ready_mem {listed : Array Bool} {i : Nat} : i ∈ Region.ready .any ops listed ↔ i < ops.size ∧ listed.getD i true = false ∧ ∀ j ∈ depsAt ops i, listed.getD j false = true := by
  unfold Region.ready
  simp only [List.mem_filter, List.mem_range, Bool.and_eq_true, Bool.not_eq_true']
  refine and_congr_right fun hi => and_congr_right fun _ => ?_
  have ho : ops[i]? = some ops[i] := Array.getElem?_eq_getElem hi
  simp only [ho, Option.map_some, Option.getD_some, depsAt, deps]
  simp only [Array.all_eq_true_iff_forall_mem, List.mem_map, List.mem_filter, Array.mem_toList_iff, Bool.or_eq_true, Bool.not_eq_true']
  constructor
  · rintro h j ⟨e, ⟨he, hb⟩, rfl⟩
    rcases h e he with h | h
    · rw [hb] at h; cases h
    · exact h
  · intro h e he
    cases hb : Region.binds .any e with
    | false => exact .inl rfl
    | true => exact .inr (h _ ⟨e, ⟨he, hb⟩, rfl⟩)
theorem all_listed {listed : Array Bool} (hok : Ok ops louds) (hs : listed.size = ops.size) (h : Region.ready .any ops listed = []) : ∀ i, i < ops.size → listed.getD i false = true := by
  intro i
  induction i using Nat.strongRecOn with
  | _ i ih =>
    intro hi
    cases hl : listed.getD i false with
    | true => rfl
    | false =>
      have : i ∈ Region.ready .any ops listed := ready_mem.2 ⟨hi, by
        have hlt : i < listed.size := by omega
        simp only [Array.getD_eq_getD_getElem?, Array.getElem?_eq_getElem hlt, Option.getD_some] at hl ⊢
        exact hl, fun j hj => ih j (hok.lt i hi j hj) (Nat.lt_trans (hok.lt i hi j hj) hi)⟩
      rw [h] at this; cases this
theorem Inv.fin {listed : Array Bool} {done : List Nat} {as ac : Act} {w : World} {t : Tr} (h : Inv P F b k ops louds listed done as ac w t) (hall : ∀ i, i < ops.size → listed.getD i false = true) : E P F b k as w := by
  have hd : ∀ i, i < ops.size → i ∈ done := fun i hi => h.sub i (hall i hi)
  have he : ac = as := by
    obtain ⟨t1, d1⟩ := ac
    obtain ⟨t2, d2⟩ := as
    have h1 := h.defers
    have h2 : t1 = t2 := Array.ext_getElem? fun i => h.agree i fun j hj hl => by rw [hall j (h.lt j hj)] at hl; cases hl
    simp only at h1
    rw [h1, h2]
  have hk := h.ok
  cases t with
  | nil => have := h.et; rw [he] at this; exact this
  | st j n =>
    simp only [okT, Bool.and_eq_true, Bool.not_eq_true', decide_eq_true_eq] at hk
    exact absurd (hd j hk.1.1.1.1.2) (by simpa using hk.1.1.2)
  | ld j p n =>
    simp only [okT, Bool.false_or, Bool.and_eq_true, Bool.not_eq_true', decide_eq_true_eq] at hk
    exact absurd (hd j hk.1.1.1.1.1.2) (by simpa using hk.1.1.1.2)
  | br l r =>
    simp only [okT, Bool.false_or, Bool.and_eq_true] at hk
    exfalso
    have : ∀ t : Tr, okT ops louds true done t = true → False := by
      intro t
      induction t with
      | nil => simp [okT]
      | st => simp [okT]
      | ld j p n _ =>
        intro hk
        simp only [okT, Bool.true_or, Bool.true_and, Bool.and_eq_true, Bool.not_eq_true', decide_eq_true_eq] at hk
        exact absurd (hd j hk.1.1.1.1.1) (by simpa using hk.1.1.1.2)
      | br l r ihl _ =>
        intro hk
        simp only [okT, Bool.true_or, Bool.true_and, Bool.and_eq_true] at hk
        exact ihl hk.1
    exact this l hk.1.2
theorem sim (hb : b.kind = .normal) (hok : Ok ops louds) (hns : NoSelect ops) (hnd : ∀ (i : Nat) (o : Oper), ops[i]? = some o → Oper.isDefer o = false) :
    ∀ (fuel t : Nat) (listed : Array Bool) (done : List Nat) (as ac : Act) (w : World) (tr : Tr), left ops.size listed ≤ fuel → Inv P F b k ops louds listed done as ac w tr →
      E P F b (.inRegion ops (Region.linearise.go .any ops fuel t listed []) :: k) as w := by
  intro fuel
  induction fuel with
  | zero =>
    intro t listed done as ac w tr hleft h
    have hall : ∀ i, i < ops.size → listed.getD i false = true := by
      intro i hi
      cases hl : listed.getD i false with
      | true => rfl
      | false =>
        have : i ∈ (List.range ops.size).filter fun i => !listed.getD i false := List.mem_filter.2 ⟨List.mem_range.2 hi, by simp [hl]⟩
        have := List.length_pos_of_mem this
        unfold left at hleft
        omega
    simpa [Region.linearise.go] using E_region_end (h.fin hall)
  | succ fuel ih =>
    intro t listed done as ac w tr hleft h
    simp only [Region.linearise.go]
    change E P F b (.inRegion ops (match (Region.ready .any ops listed)[t % (Region.ready .any ops listed).length]? with
      | some i => Region.linearise.go .any ops fuel (t / (Region.ready .any ops listed).length) (listed.setIfInBounds i true) [i]
      | none => [].reverse) :: k) as w
    cases hi : (Region.ready .any ops listed)[t % (Region.ready .any ops listed).length]? with
    | none =>
      have hnil : Region.ready .any ops listed = [] := by
        cases hr : Region.ready .any ops listed with
        | nil => rfl
        | cons x xs =>
          rw [hr] at hi
          have hlt : t % (x :: xs).length < (x :: xs).length := Nat.mod_lt _ (by simp)
          simp at hi
          simp at hlt
          omega
      simpa using E_region_end (h.fin (all_listed hok h.sz hnil))
    | some i =>
      simp only []
      rw [linearise_go_acc, List.reverse_singleton, List.singleton_append]
      obtain ⟨hlt, hlf0, hr⟩ := ready_mem.1 (List.mem_of_getElem? hi)
      have hlf : listed.getD i false = false := by
        have h2 : i < listed.size := by rw [h.sz]; exact hlt
        simp only [Array.getD_eq_getD_getElem?, Array.getElem?_eq_getElem h2, Option.getD_some] at hlf0 ⊢
        exact hlf0
      have hsz : i < listed.size := by rw [h.sz]; exact hlt
      have hleft' : left ops.size (listed.setIfInBounds i true) ≤ fuel := by have := left_set h.sz hlt hlf; omega
      have ho : ops[i]? = some ops[i] := Array.getElem?_eq_getElem hlt
      generalize hoi : ops[i] = o at ho
      -- the state in which the machine stands and mine agree on what i looks at
      have hag : ∀ (done : List Nat) (ac : Act) (tr : Tr), Inv P F b k ops louds listed done as ac w tr → ∀ t ∈ o.looksAt ops, ac.tmps[t]? = as.tmps[t]? := by
        intro done ac tr h t ht
        apply h.agree
        intro j hj hlj hd
        have hjl : j ∉ louds := fun e => by rw [h.loud j hj e] at hlj; cases hlj
        have := hok.look j i t (h.lt j hj) hlt hjl hd (by simp [looks, ho, ht])
        rw [hr j this] at hlj; cases hlj
      rcases h.adv hok hns hlt hr with ⟨done', ac', tr', h', hd'⟩ | ⟨done', ac', tr', p, n, h', hd', hk, he⟩
      · -- it has looked already in my order
        have hag' := hag done' ac' tr' h'
        have hil : i ∉ louds := fun e => by rw [h'.loud i hd' e] at hlf; cases hlf
        obtain ⟨r1, r2⟩ := h'.rc i hd' hlf o ho
        have next : ∀ v, ac'.put o.dst v = ac' → Inv P F b k ops louds (listed.setIfInBounds i true) done' (as.put o.dst v) ac' w tr' := by
          intro v hput
          refine ⟨by simpa using h'.sz, ?_, h'.lt, ?_, ?_, h'.cd, by rw [put_defers]; exact h'.defers, by rw [put_size]; exact h'.size, ?_, ?_, h'.ok, h'.et⟩
          · intro j hj
            rw [getD_set hsz] at hj
            split at hj
            · rename_i e; exact e ▸ hd'
            · exact h'.sub j hj
          · intro j hj hl; rw [getD_set hsz]; split
            · rfl
            · exact h'.loud j hj hl
          · intro j hj x hx
            rw [getD_set hsz] at hj ⊢
            split
            · rfl
            · split at hj
              · rename_i e; exact hr x (e ▸ hx)
              · exact h'.cl j hj x hx
          · intro t ht
            by_cases hdt : o.dst = some t
            · have e1 : ac'.tmps[t]? = (ac'.put o.dst v).tmps[t]? := by rw [hput]
              rw [e1, hdt]
              simp only [Act.put, Array.getElem?_setIfInBounds, if_true, h'.size]
            · rw [put_tmps_other hdt]
              apply h'.agree
              intro j hj hlj
              by_cases hji : j = i
              · subst hji; simpa [dstAt, ho] using hdt
              · exact ht j hj (by rw [getD_set hsz, if_neg (fun e => hji e.symm)]; exact hlj)
          · intro j hj hlj
            rw [getD_set hsz] at hlj
            split at hlj
            · cases hlj
            · exact h'.rc j hj hlj
        have hwag := yielded_agree (ops := ops) hag'
        cases hw : Region.wanted o (yielded ops ac'.tmps) with
        | true =>
          obtain ⟨v, hv, hput⟩ := r1 hw
          rw [exec_agree (ops := ops) (hns i o ho) hag'] at hv
          refine E_op hb ho (by rw [← hwag, hw]) (hnd i o ho) ?_
          rw [hv]
          exact ih _ _ _ _ _ _ _ hleft' (next v hput)
        | false =>
          have hput := r2 hw
          refine E_op_skip (by simp [ho, ← hwag, hw]) ?_
          simp only [ho, Option.bind_some]
          exact ih _ _ _ _ _ _ _ hleft' (next undef hput)
      · -- it acts: both go on by it
        have hag' := hag done' ac' tr' h'
        simp only [okT, Bool.true_or, Bool.true_and, Bool.and_eq_true, decide_eq_true_eq, Bool.not_eq_true'] at hk
        obtain ⟨⟨⟨⟨⟨_, hil⟩, _⟩, hrd⟩, hpd⟩, hn⟩ := hk
        obtain ⟨o', ho', _, het, hef⟩ := he
        rw [ho] at ho'; cases ho'
        have hrd' : ∀ x ∈ depsAt ops i, x ∈ done' := by simpa [rdy] using hrd
        have hpd' : ∀ j ∈ done', listed.getD j false = false → j ∈ p := by
          intro j hj hlj
          simp only [List.all_eq_true, Bool.or_eq_true] at hpd
          rcases hpd j hj with ((hx | hx) | hx) | hx
          · have := h'.loud j hj (by simpa using hx); rw [hlj] at this; cases this
          · have := hr j (by simpa using hx); rw [hlj] at this; cases this
          · simpa using hx
          · have := needs_listed h'.cl _ _ _ hr hx; rw [hlj] at this; cases this
        have next : ∀ v w', (∀ j ∈ p, Rc P ops j (ac'.put o.dst v) w') → ET P F b k ops n (ac'.put o.dst v) w' →
            Inv P F b k ops louds (listed.setIfInBounds i true) (i :: done') (as.put o.dst v) (ac'.put o.dst v) w' n := by
          intro v w' hrc hE
          refine ⟨by simpa using h'.sz, ?_, ?_, ?_, ?_, ?_, by rw [put_defers, put_defers]; exact h'.defers, by rw [put_size, put_size]; exact h'.size, ?_, ?_, hn, hE⟩
          · intro j hj
            rw [getD_set hsz] at hj
            split at hj
            · rename_i e; simp [e]
            · exact List.mem_cons_of_mem _ (h'.sub j hj)
          · intro j hj
            rcases List.mem_cons.1 hj with rfl | hj
            · exact hlt
            · exact h'.lt j hj
          · intro j hj hl; rw [getD_set hsz]; split
            · rfl
            · rename_i hne
              rcases List.mem_cons.1 hj with rfl | hj
              · exact absurd rfl hne
              · exact h'.loud j hj hl
          · intro j hj x hx
            rw [getD_set hsz] at hj ⊢
            split
            · rfl
            · split at hj
              · rename_i e; exact hr x (e ▸ hx)
              · exact h'.cl j hj x hx
          · intro j hj x hx
            rcases List.mem_cons.1 hj with rfl | hj
            · exact List.mem_cons_of_mem _ (hrd' x hx)
            · exact List.mem_cons_of_mem _ (h'.cd j hj x hx)
          · intro t ht
            by_cases hdt : o.dst = some t
            · rw [hdt]
              simp only [Act.put, Array.getElem?_setIfInBounds, if_true, h'.size]
            · rw [put_tmps_other hdt, put_tmps_other hdt]
              apply h'.agree
              intro j hj hlj
              have hji : j ≠ i := fun e => hd' (e ▸ hj)
              exact ht j (List.mem_cons_of_mem _ hj) (by rw [getD_set hsz, if_neg (fun e => hji e.symm)]; exact hlj)
          · intro j hj hlj
            rw [getD_set hsz] at hlj
            split at hlj
            · cases hlj
            · rename_i hne
              rcases List.mem_cons.1 hj with rfl | hj
              · exact absurd rfl hne
              · exact hrc j (hpd' j hj hlj)
        have hwag := yielded_agree (ops := ops) hag'
        cases hw : Region.wanted o (yielded ops ac'.tmps) with
        | true =>
          have hN := het hw
          rw [exec_agree (ops := ops) (hns i o ho) hag'] at hN
          refine E_op hb ho (by rw [← hwag, hw]) (hnd i o ho) (hN.mono fun v w' ⟨hrc, hE⟩ => ?_)
          exact ih _ _ _ _ _ _ _ hleft' (next v w' hrc hE)
        | false =>
          obtain ⟨hrc, hE⟩ := hef hw
          refine E_op_skip (by simp [ho, ← hwag, hw]) ?_
          simp only [ho, Option.bind_some]
          exact ih _ _ _ _ _ _ _ hleft' (next undef w hrc hE)
def noSel (ops : Array Oper) : Bool := ops.toList.all fun o => (match o.op with | .select .. => false | _ => true) && !Oper.isDefer o
theorem E_drawn {id : Nat} {a : Act} {w : World} (hb : b.kind = .normal) (hm : P.follows .mixedOrders = true) (t : Tr)
    (hc : (okR ops louds && okT ops louds false [] t && noSel ops) = true) (h : ET P F b k ops t a { w with drawn := w.drawn + 1 }) : E P F b (.code (.region id ops true) :: k) a w := by
  simp only [Bool.and_eq_true] at hc
  obtain ⟨⟨h1, h2⟩, h3⟩ := hc
  simp only [noSel, List.all_eq_true, Bool.and_eq_true, Bool.not_eq_true'] at h3
  refine E_region_draw fun q => ?_
  simp only [Region.schedule, hm, Bool.true_or, if_true]
  refine sim hb (Ok.of h1) ?_ ?_ ops.size q (Array.replicate ops.size false) [] a a _ t ?_ ?_
  · intro i o ho cs bl he
    have := (h3 o (by simpa using Array.mem_of_getElem? ho)).1
    rw [he] at this; cases this
  · intro i o ho
    exact (h3 o (by simpa using Array.mem_of_getElem? ho)).2
  · unfold left
    exact Nat.le_trans (List.length_filter_le _ _) (by simp)
  · have hf : ∀ i, (Array.replicate ops.size false).getD i false = false := by
      intro i
      simp only [Array.getD_eq_getD_getElem?, Array.getElem?_replicate]
      split <;> rfl
    exact ⟨by simp, (fun i hi => by rw [hf] at hi; cases hi), (fun i hi => by simp at hi), (fun i hi => by simp at hi), (fun i hi => by rw [hf] at hi; cases hi), (fun i hi => by simp at hi), rfl, rfl, fun _ _ => rfl, (fun i hi => by simp at hi), h2, h⟩
/-! ### a region in the text's order -/
def chain : Nat → Nat → Tr → Bool
  | n, i, .nil => n == i
  | n, i, .st j t => i == j && chain n (i + 1) t
  | n, i, .ld j _ t => i == j && chain n (i + 1) t
  | _, _, .br .. => false
theorem plain_go (hb : b.kind = .normal) : ∀ (t : Tr) (i m : Nat) (a : Act) (w : World), chain ops.size i t = true → ops.size = i + m → ET P F b k ops t a w → E P F b (.inRegion ops (List.range' i m) :: k) a w
  | .nil, i, m, a, w, hc, hm, h => by
    simp only [chain, beq_iff_eq] at hc
    obtain rfl : m = 0 := by omega
    exact E_region_end h
  | .st j t, i, m, a, w, hc, hm, h => by
    simp only [chain, Bool.and_eq_true, beq_iff_eq] at hc
    obtain ⟨rfl, hc⟩ := hc
    obtain ⟨o, ho, h1, h2⟩ := h
    have hlt : i < ops.size := (Array.getElem?_eq_some_iff.1 ho).1
    obtain ⟨m, rfl⟩ : ∃ m', m = m' + 1 := ⟨m - 1, by omega⟩
    rw [List.range'_succ]
    cases hw : Region.wanted o (yielded ops a.tmps) with
    | true =>
      obtain ⟨v, hv, hE⟩ := h1 hw
      have hd : Oper.isDefer o = false := by
        cases hop : o.op <;> simp [Oper.isDefer, hop]
        exfalso
        rename_i c
        simp only [execOp, hop] at hv
        rw [Sem.run_bind] at hv
        cases hr : (resolve a.eval c o.type).run P w <;> simp [hr, Result.andThen] at hv
      refine E_op hb ho hw hd ?_
      rw [hv]
      exact plain_go hb t _ m _ _ hc (by omega) hE
    | false =>
      refine E_op_skip (by simp [ho, hw]) ?_
      simp only [ho, Option.bind_some]
      exact plain_go hb t _ m _ _ hc (by omega) (h2 hw)
  | .ld j p t, i, m, a, w, hc, hm, h => by
    simp only [chain, Bool.and_eq_true, beq_iff_eq] at hc
    obtain ⟨rfl, hc⟩ := hc
    obtain ⟨o, ho, hd, h1, h2⟩ := h
    have hlt : i < ops.size := (Array.getElem?_eq_some_iff.1 ho).1
    obtain ⟨m, rfl⟩ : ∃ m', m = m' + 1 := ⟨m - 1, by omega⟩
    rw [List.range'_succ]
    cases hw : Region.wanted o (yielded ops a.tmps) with
    | true =>
      exact E_op hb ho hw hd ((h1 hw).mono fun v w' hE => plain_go hb t _ m _ _ hc (by omega) hE.2)
    | false =>
      refine E_op_skip (by simp [ho, hw]) ?_
      simp only [ho, Option.bind_some]
      exact plain_go hb t _ m _ _ hc (by omega) (h2 hw).2
  | .br .., i, m, a, w, hc, hm, h => by simp [chain] at hc
theorem E_plain {id : Nat} {a : Act} {w : World} (hb : b.kind = .normal) (t : Tr) (hc : chain ops.size 0 t = true) (h : ET P F b k ops t a w) : E P F b (.code (.region id ops false) :: k) a w := by
  refine E_region ?_
  rw [List.range_eq_range']
  exact plain_go hb t 0 ops.size a w hc (by omega) h
end sim
end Go.Sx
