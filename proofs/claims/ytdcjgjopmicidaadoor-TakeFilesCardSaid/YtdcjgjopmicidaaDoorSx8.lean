/-
  Calls that write what the caller owns; ranges over functions, and the rounds of their bodies.
-/
import Derived.Test.YtdcjgjopmicidaaDoorSx7
namespace Go.Sx
open Go.RowKit

section calls
variable {C : Cx} {L : Slots} {D : List Deferred} {H : Items} {k : List Item} {ops : Array Oper} {i d : Nat} {o : Oper} {n : Tr} {pend : List Nat}

theorem run_enter {a : Act} {w : World} {N : Nat} (s : St N L D a) {P : Program} {f : Operand} {args : Array Operand} {ts : Array TypeId} {fi : FuncId} {fs cs : Array Value} {vs args' : List Value} (hop : o.op = .call { callee := .value f, args := args, argTypes := ts })
    (hf : ev L f = some (.func (.func fi) fs cs)) (ha : evs L args.toList = some vs) (he : fs.toList ++ vs ++ cs.toList = args') (hb : runs P fi = true) : (execOp a.eval o).run P w = .ok (.enter fi args'.toArray) w := by
  obtain ⟨fn, c, hfn, hbody, hname⟩ := runs_of hb
  have e0 : args.map a.eval = vs.toArray := by
    have := s.evals ha
    rw [← this]; obtain ⟨l⟩ := args; simp
  have e1 : fs ++ vs.toArray ++ cs = args'.toArray := by rw [← he]; simp
  simp [execOp, hop, resolve, s.eval hf, Deferred.ofValue, invoke, callFunc, hfn, hbody, hname, e0, e1]

theorem GT_callX {ι : Type} {H' : ι → Items} {V : ι → Value} {p : ι → Prop} {f : Operand} {args : Array Operand} {ts : Array TypeId} {fi : FuncId} {fs cs : Array Value} {vs args' : List Value}
    (ho : opAt ops i = some o) (hop : o.op = .call { callee := .value f, args := args, argTypes := ts }) (hg : o.guard = none) (hd : o.dst = some d) (hN : Nat.blt d C.N = true)
    (hf : ev L f = some (.func (.func fi) fs cs)) (ha : evs L args.toList = some vs) (he : fs.toList ++ vs ++ cs.toList = args') (hb : runs C.P fi = true)
    (hc : ∀ w, SH C.w0 C.M H w → Ret C.P fi args'.toArray w fun v w' => ∃ x, p x ∧ v = V x ∧ SH C.w0 C.M (H' x) w')
    (hp : ∀ x, p x → GR C ops ((d, V x) :: L) D (H' x) pend) (h : ∀ x, p x → GT C ops k ((d, V x) :: L) D (H' x) n) : GT C ops k L D H (.ld i pend n) := by
  refine GT_ld ho hg (by simp [Oper.isDefer, hop]) fun a w s m => ?_
  rw [run_enter s hop hf ha he hb]
  exact (hc w m).mono fun v w' ⟨x, hx, hv, m'⟩ => by
    subst hv
    exact ⟨_, _, by rw [hd]; exact s.put hN _, m', hp x hx, h x hx⟩

theorem GT_buildSlice_g {j dj : Nat} {g : Bool} {oj : Oper} {t e nn sz : Nat} {parts : Array (Nat × Operand)} {z0 z : List Value} {ps : List (Nat × Value)} (ho : opAt ops i = some o) (hop : o.op = .buildSlice t nn parts) (hg : o.guard = some (j, g)) (hj : opAt ops j = some oj) (hdj : oj.dst = some dj) (hl : look L dj = some (.bool g)) (hd : o.dst = some d) (hN : Nat.blt d C.N = true) (ht : C.P.underlying t = some (.slice e)) (hz : zcOf C.P e = some z0) (hs : szOf C.P e = some sz)
    (hle : nn * sz ≤ 16777216 ∧ z0.length = sz) (he : evParts L parts.toList = some ps) (hf : fillL ((List.range nn).map fun i => (i * sz, sz)) ((List.replicate nn z0).flatten) ps = some z)
    (hp : ∀ b, GR C ops ((d, .slice (some ⟨b, 0, none⟩) nn nn) :: L) D ((b, blk z e) :: H) pend) (h : ∀ b, GT C ops k ((d, .slice (some ⟨b, 0, none⟩) nn nn) :: L) D ((b, blk z e) :: H) n) : GT C ops k L D H (.ld i pend n) := by
  refine GT_ld_g ho hg hj hdj hl (by simp [Oper.isDefer, hop]) fun a w s m => ?_
  obtain ⟨v, hv, rfl⟩ := Option.map_eq_some_iff.1 hz
  obtain ⟨inf, hi, hz0⟩ := Option.bind_eq_some_iff.1 hv
  obtain ⟨inf', hi', rfl⟩ := Option.map_eq_some_iff.1 hs
  rw [hi] at hi'; cases hi'
  have hev := evParts_eval s he
  have e0 : (parts.map fun x => (x.1, a.eval x.2)) = ps.toArray := by
    rw [← hev]; obtain ⟨l⟩ := parts; simp
  have hsz : v.cells.size = inf.size := by simpa using hle.2
  have e2 : madeCells v.cells (nn * inf.size) = ((List.replicate nn v.cells.toList).flatten).toArray := made_eq nn _ _ hle.2.symm
  have hfill := fill_L (place := fun i => some (i * inf.size, inf.size)) (pl := (List.range nn).map fun i => (i * inf.size, inf.size)) (by
    intro i x hx
    simp only [List.getElem?_map, Option.map_eq_some_iff] at hx
    obtain ⟨j, hj, rfl⟩ := hx
    have := List.getElem?_eq_some_iff.1 hj
    obtain ⟨h1, h2⟩ := this
    simp at h2
    rw [h2]) ps _ z hf
  rw [← e2] at hfill
  have e1 : (execOp a.eval o).run C.P w = .ok (.value (.slice (some ⟨w.heap.size, 0, none⟩) nn nn)) { w with heap := w.heap.push (.cells z.toArray e) } := by
    have hroom : ¬ (nn * inf.size > 2 ^ 24) := by have := hle.1; omega
    by_cases h0 : nn * inf.size = 0
    · rw [h0] at hfill
      have hr0 : Array.range 0 = #[] := by simp [Array.range]
      simp only [madeCells, hr0, Array.map_empty] at hfill
      simp only [execOp, hop, e0, Instr.buildSlice, underlying, Sem.run_bind, run_program, Result.andThen_ok, ht, Sem.run_pure, sizeOf, typeInfo, hi, Nat.not_lt_zero, gt_iff_lt, if_false, h0, if_true, hr0, Array.map_empty]
      simp [hfill, newRow]
    · simp only [execOp, hop, e0, Instr.buildSlice, underlying, Sem.run_bind, run_program, Result.andThen_ok, ht, Sem.run_pure, sizeOf, typeInfo, hi, if_neg hroom, h0, if_false, zeroValue, hz0]
      unfold madeCells at hfill
      simp [hfill, newRow]
  rw [e1]
  exact ⟨_, _, by rw [hd]; exact s.put hN _, m.alloc _, hp _, h _⟩
/-- What yield comes to, called with args, the caller's blocks being H. -/
def YieldTo (P : Program) (w0 : World) (M : Nat → Prop) (l : Nat) (args : List Value) (H : Items) (R : Value → Items → Prop) : Prop :=
  ∀ w, SH w0 M H w → NextOk P ((Instr.yield l args.toArray).run P w) fun v w' => ∃ H', R v H' ∧ SH w0 M H' w'

theorem run_yield {a : Act} {w : World} {N : Nat} (s : St N L D a) {P : Program} {f : Operand} {args : Array Operand} {ts : Array TypeId} {l : Nat} {vs : List Value} (hop : o.op = .call { callee := .value f, args := args, argTypes := ts })
    (hf : ev L f = some (.func (.yield l) #[] #[])) (ha : evs L args.toList = some vs) : (execOp a.eval o).run P w = (Instr.yield l vs.toArray).run P w := by
  have e0 : args.map a.eval = vs.toArray := by
    have := s.evals ha
    rw [← this]; obtain ⟨l⟩ := args; simp
  simp [execOp, hop, resolve, s.eval hf, Deferred.ofValue, invoke, e0]
theorem GT_yield {f : Operand} {args : Array Operand} {ts : Array TypeId} {l : Nat} {vs : List Value} {R : Value → Items → Prop}
    (ho : opAt ops i = some o) (hop : o.op = .call { callee := .value f, args := args, argTypes := ts }) (hg : o.guard = none) (hd : o.dst = some d) (hN : Nat.blt d C.N = true)
    (hf : ev L f = some (.func (.yield l) #[] #[])) (ha : evs L args.toList = some vs) (hc : YieldTo C.P C.w0 C.M l vs H R)
    (hp : ∀ v H', R v H' → GR C ops ((d, v) :: L) D H' pend) (h : ∀ v H', R v H' → GT C ops k ((d, v) :: L) D H' n) : GT C ops k L D H (.ld i pend n) := by
  refine GT_ld ho hg (by simp [Oper.isDefer, hop]) fun a w s m => ?_
  rw [run_yield s hop hf ha]
  exact (hc w m).mono fun v w' ⟨H', hR, m'⟩ => ⟨_, _, by rw [hd]; exact s.put hN _, m', hp v H' hR, h v H' hR⟩
theorem GT_yield_g {f : Operand} {args : Array Operand} {ts : Array TypeId} {l : Nat} {vs : List Value} {R : Value → Items → Prop} {j dj : Nat} {g : Bool} {oj : Oper}
    (ho : opAt ops i = some o) (hop : o.op = .call { callee := .value f, args := args, argTypes := ts }) (hg : o.guard = some (j, g)) (hj : opAt ops j = some oj) (hdj : oj.dst = some dj) (hl : look L dj = some (.bool g)) (hd : o.dst = some d) (hN : Nat.blt d C.N = true)
    (hf : ev L f = some (.func (.yield l) #[] #[])) (ha : evs L args.toList = some vs) (hc : YieldTo C.P C.w0 C.M l vs H R)
    (hp : ∀ v H', R v H' → GR C ops ((d, v) :: L) D H' pend) (h : ∀ v H', R v H' → GT C ops k ((d, v) :: L) D H' n) : GT C ops k L D H (.ld i pend n) := by
  refine GT_ld_g ho hg hj hdj hl (by simp [Oper.isDefer, hop]) fun a w s m => ?_
  rw [run_yield s hop hf ha]
  exact (hc w m).mono fun v w' ⟨H', hR, m'⟩ => ⟨_, _, by rw [hd]; exact s.put hN _, m', hp v H' hR, h v H' hR⟩
end calls

/-! ### a frame that begins in a world in which something has turned already -/
theorem Ret_ofH {P : Program} {f N : Nat} {w0 w : World} {R : Value → World → Prop} {fn : Func} {c : Code} {vs : List Value} {H : Items} (hm : P.follows .mixedOrders = true) (M : Nat → Prop) (hf : P.funcs[f]? = some fn) (hb : fn.body = some c) (hN : fn.ntmps = N) (hle0 : Nat.ble vs.length N = true)
    (m : SH w0 M H w) (h : GE (cx P hm f N w0 M R) (slotsOf 0 vs) [] H [.code c]) : Ret P f vs.toArray w R := by
  have hle : vs.length ≤ N := Nat.le_of_ble_eq_true hle0
  refine Ret_of_E hf hb (h _ w ⟨?_, rfl, fun t v hv => ?_⟩ m)
  · simp [hN]; omega
  · obtain ⟨_, h2⟩ := slotsOf_look vs 0 t v hv
    simp only [Nat.sub_zero] at h2
    have hlt : t < vs.length := (List.getElem?_eq_some_iff.1 h2).1
    rw [Array.getElem?_append_left (by simpa using hlt)]
    simpa using h2

/-! ### rounds -/
def rbase (f l : Nat) : Frame := { (default : Frame) with fn := f, kind := .normal, roundOf := some l }

/-- How a round is left, by what is left to be done. -/
def leaves : List Item → Option Code → Prop
  | [], j => j = none
  | .code .ret :: _, j => j = some .ret
  | .code (.exit i) :: k, j => exitTo i k = none ∧ j = some (.exit i)
  | _, _ => False

def FinRound (l : Nat) (R : Value → World → Prop) (fr : Frame) (w : World) : Prop :=
  fr.mode = .run ∧ fr.kind = .normal ∧ fr.roundOf = some l ∧ ∃ j r, leaves fr.todo j ∧ w.heap[l]? = some (.loop r) ∧
    R (.bool j.isNone) { w with heap := w.heap.setIfInBounds l (.loop { r with state := if j.isNone then .ready else .done, pending := j }) }

theorem run_endRound {P : Program} {w : World} {l : Nat} {r : Loop} {j : Option Code} (h : w.heap[l]? = some (.loop r)) : (Instr.endRound l j).run P w = .ok (.bool j.isNone) { w with heap := w.heap.setIfInBounds l (.loop { r with state := if j.isNone then .ready else .done, pending := j }) } := by
  simp [Instr.endRound, Instr.getLoop, getObj, setObj, Sem.run, h, bind, Sem.bind, pure]

theorem Rnd_of_E {P : Program} {l f : Nat} {tmps : Array Value} {assign body : Code} {w : World} {R : Value → World → Prop}
    (h : E P (FinRound l R) (rbase f l) [.code assign, .beginRound, .code body] { tmps := tmps, defers := [] } w) : Rnd P l f tmps assign body w R := by
  intro c cs
  obtain ⟨fr, w', ⟨hm, hk, hr, j, r, hj, hl, hR⟩, hs⟩ := h (c :: cs)
  have e : on (rbase f l) { tmps := tmps, defers := [] } [.code assign, .beginRound, .code body] = Frame.round l f tmps assign body .normal := rfl
  rw [e] at hs
  refine ⟨_, _, hR, hs.trans (.one (step_lone_go ?_))⟩
  have hend := run_endRound (P := P) (j := j) hl
  cases ht : fr.todo with
  | nil =>
    rw [ht] at hj
    simp only [leaves] at hj
    subst hj
    simp [stepG, hm, stepG.exec, ht, hr, hend, doReturn, hk]
  | cons it k =>
    rw [ht] at hj
    cases it with
    | code cc =>
      cases cc with
      | ret =>
        simp only [leaves] at hj
        subst hj
        simp [stepG, hm, stepG.exec, ht, hr, hend, doReturn, hk]
      | exit i =>
        simp only [leaves] at hj
        obtain ⟨h1, rfl⟩ := hj
        simp [stepG, hm, stepG.exec, ht, hr, hend, doReturn, hk, h1]
      | _ => exact hj.elim
    | _ => exact hj.elim

theorem E_beginRound {P : Program} {F : Frame → World → Prop} {f l : Nat} {k : List Item} {a : Act} {w : World} {r : Loop} (h : w.heap[l]? = some (.loop r)) (hs : r.state = .ready)
    (hE : E P F (rbase f l) k a { w with heap := w.heap.setIfInBounds l (.loop { r with state := .busy }) }) : E P F (rbase f l) (.beginRound :: k) a w := by
  refine hE.step fun cs => step_lone_go ?_
  have hb : (Instr.beginRound l).run P w = .ok () { w with heap := w.heap.setIfInBounds l (.loop { r with state := .busy }) } := by
    simp [Instr.beginRound, Instr.getLoop, getObj, setObj, Sem.run, h, hs, bind, Sem.bind, pure]
  simp [stepG, stepG.exec, on, rbase, stepG.apply, Frame.finish, hb]

/-- A round's surroundings. -/
abbrev rcx (P : Program) (hm : P.follows .mixedOrders = true) (f l N : Nat) (w0 : World) (M : Nat → Prop) (R : Value → World → Prop) : Cx :=
  { P := P, F := FinRound l R, b := rbase f l, hb := rfl, hm := hm, N := N, w0 := w0, M := M }

section rounds
variable {P : Program} {hm : P.follows .mixedOrders = true} {f l N : Nat} {w0 : World} {M : Nat → Prop} {R : Value → World → Prop} {L : Slots} {H H' : Items} {k : List Item} {r : Loop}
theorem GE_beginRound [ht : HTake l H (.loop r) H'] (hs : r.state = .ready) (h : GE (rcx P hm f l N w0 M R) L [] ((l, .loop { r with state := .busy }) :: H') k) : GE (rcx P hm f l N w0 M R) L [] H (.beginRound :: k) := by
  intro a w s m
  have m' := m.perm ht.perm
  exact E_beginRound (m'.item _ (List.mem_cons_self ..)).2 hs (h a _ s (m'.set _))
theorem GE_leave (j : Option Code) (hj : leaves k j) [ht : HTake l H (.loop r) H'] (hR : ∀ w, SH (rcx P hm f l N w0 M R).w0 (rcx P hm f l N w0 M R).M ((l, .loop { r with state := if j.isNone then .ready else .done, pending := j }) :: H') w → R (.bool j.isNone) w) : GE (rcx P hm f l N w0 M R) L [] H k := by
  intro a w s m cs
  have m' := m.perm ht.perm
  have hb := (m'.item _ (List.mem_cons_self ..)).2
  refine ⟨on (rbase f l) a k, w, ⟨rfl, rfl, rfl, j, r, hj, hb, hR _ (m'.set _)⟩, .refl _ _⟩

theorem setAll_look {N : Nat} : ∀ (ps : List (Nat × Value)) (T : Array Value) (L : Slots), T.size = N → (∀ t v, look L t = some v → T[t]? = some v) → ps.all (fun p => Nat.blt p.1 N) = true →
    (ps.foldl (fun (T : Array Value) p => T.setIfInBounds p.1 p.2) T).size = N ∧ ∀ t v, look (ps.foldl (fun L p => p :: L) L) t = some v → (ps.foldl (fun (T : Array Value) p => T.setIfInBounds p.1 p.2) T)[t]? = some v
  | [], T, L, hs, h, _ => ⟨hs, h⟩
  | p :: ps, T, L, hs, h, hb => by
    simp only [List.all_cons, Bool.and_eq_true] at hb
    have st : St N L [] ⟨T, []⟩ := ⟨hs, rfl, h⟩
    have := st.put hb.1 p.2
    exact setAll_look ps _ (p :: L) this.size this.slot hb.2

/-- yield, by a walk of a round. -/
theorem yield_of {vs : List Value} {T : Array Value} {Rv : Value → Items → Prop} {r : Loop} (hl : HFind l H (.loop r)) (hfn : r.fn = f) (hT : r.tmps = T) (hsz : T.size = N) (hlook : ∀ t v, look L t = some v → T[t]? = some v)
    (hps : r.params.toList.length = vs.length) (hbd : (r.params.toList.zip vs).all (fun p => Nat.blt p.1 N) = true) (hm : P.follows .mixedOrders = true)
    (h : GE (rcx P hm f l N w0 M fun v w' => ∃ H', Rv v H' ∧ SH w0 M H' w') ((r.params.toList.zip vs).foldl (fun L p => p :: L) L) [] H [.code r.assign, .beginRound, .code r.body]) : YieldTo P w0 M l vs H Rv := by
  intro w m
  have hit := (m.item _ hl.mem).2
  have hrun : (Instr.yield l vs.toArray).run P w = .ok (.round l r.fn ((r.params.zip vs.toArray).foldl (fun (tmps : Array Value) (t, a) => tmps.setIfInBounds t a) r.tmps) r.assign r.body) w := by
    have h1 : (Instr.getLoop l).run P w = .ok r w := by simp [Instr.getLoop, getObj, Sem.run, hit, bind, Sem.bind, pure]
    have h2 : ¬ vs.toArray.size ≠ r.params.size := by simp; simpa using hps.symm
    simp only [Instr.yield, Sem.run_bind, h1, Result.andThen_ok]
    rw [if_neg h2]
    simp
  rw [hrun]
  simp only [NextOk]
  refine Rnd_of_E ?_
  rw [hfn]
  have key := setAll_look (N := N) (r.params.toList.zip vs) T L hsz hlook hbd
  have e : ((r.params.zip vs.toArray).foldl (fun (tmps : Array Value) (x : Nat × Value) => tmps.setIfInBounds x.1 x.2) r.tmps) = (r.params.toList.zip vs).foldl (fun (T : Array Value) p => T.setIfInBounds p.1 p.2) T := by
    rw [← Array.foldl_toList, Array.toList_zip, hT]
  have e' : ((r.params.zip vs.toArray).foldl (fun (tmps : Array Value) (t, a) => tmps.setIfInBounds t a) r.tmps) = (r.params.toList.zip vs).foldl (fun (T : Array Value) p => T.setIfInBounds p.1 p.2) T := e
  rw [e']
  exact h _ w ⟨key.1, rfl, key.2⟩ m
end rounds

/-! ### the loop -/
theorem E_range {P : Program} {F : Frame → World → Prop} {b : Frame} {k : List Item} {a : Act} {w : World} {f : Operand} {params : Array Tmp} {assign body : Code} {fi : FuncId} {fs cs : Array Value}
    (hb : b.kind = .normal) (hr : b.roundOf = none) (hf : a.eval f = .func (.func fi) fs cs) (hrun : runs P fi = true)
    (h : Ret P fi (fs ++ #[.func (.yield (w.heap.size + 1)) #[] #[]] ++ cs) { w with heap := (w.heap.push (.deferred (some []))).push (.loop { state := .ready, pending := none, fn := b.fn, tmps := a.tmps, params := params, assign := assign, body := body, defers := w.heap.size }) } fun _ w' =>
      ∃ r, w'.heap[w.heap.size + 1]? = some (.loop r) ∧ r.state ≠ .busy ∧
        E P F b ((r.pending.map Item.code).toList ++ k) { a with defers := { target := .collected w.heap.size, args := #[] } :: a.defers } { w' with heap := w'.heap.setIfInBounds (w.heap.size + 1) (.loop { r with state := .exhausted }) }) :
    E P F b (.code (.rangeFunc f params assign body) :: k) a w := by
  intro cs'
  obtain ⟨fn, c, hfn, hbody, hname⟩ := runs_of hrun
  have heval : ∀ todo df, ({ on b a todo with defers := df } : Frame).eval f = .func (.func fi) fs cs := by
    intro todo df
    rw [← hf]; cases f <;> rfl
  let w2 : World := { w with heap := (w.heap.push (.deferred (some []))).push (.loop { state := .ready, pending := none, fn := b.fn, tmps := a.tmps, params := params, assign := assign, body := body, defers := w.heap.size }) }
  let a' : Act := { a with defers := { target := .collected w.heap.size, args := #[] } :: a.defers }
  have hstep1 : step P (lone (on b a (.code (.rangeFunc f params assign body) :: k)) cs' w) =
      .next (lone (Frame.enter P fi (fs ++ #[.func (.yield (w.heap.size + 1)) #[] #[]] ++ cs) .normal) (on b a' (.inRangeFunc (w.heap.size + 1) :: k) :: cs') w2) := by
    refine step_lone_go ?_
    have hent : (Instr.enterLoop b.fn a.tmps params assign body none).run P w = .ok (w.heap.size + 1, [{ target := .collected w.heap.size, args := #[] }]) w2 := by
      simp [Instr.enterLoop, newObj, Sem.run, bind, Sem.bind, pure, w2]
    have he := heval (.inRangeFunc (w.heap.size + 1) :: k) (a'.defers)
    simp only [on] at he
    simp only [stepG, on, stepG.exec, hr, Sem.runT_eq, hent, GStep.bare_after, List.singleton_append]
    have hap : (do let d ← resolve (Frame.eval { b with tmps := a.tmps, todo := .inRangeFunc (w.heap.size + 1) :: k, defers := { target := .collected w.heap.size, args := #[] } :: a.defers, mode := .run }) { callee := .value f, args := #[.const (.func (.yield (w.heap.size + 1)) #[] #[])], argTypes := #[] } 0; invoke d.target d.args : Sem Next).run P w2 = .ok (.enter fi (fs ++ #[.func (.yield (w.heap.size + 1)) #[] #[]] ++ cs)) w2 := by
      simp only [a'] at he
      have hc : Frame.eval { b with tmps := a.tmps, todo := .inRangeFunc (w.heap.size + 1) :: k, defers := { target := .collected w.heap.size, args := #[] } :: a.defers, mode := .run } (.const (.func (.yield (w.heap.size + 1)) #[] #[])) = .func (.yield (w.heap.size + 1)) #[] #[] := rfl
      simp [resolve, he, hc, Deferred.ofValue, invoke, callFunc, hfn, hbody, hname]
    simp only [hr] at hap
    simp only [stepG.apply, Sem.runT_eq, hap, GStep.bare_after, if_true]
    simp [a', hr]
  obtain ⟨e, w', fr, hR, hcomes, _, hleave⟩ := h (on b a' (.inRangeFunc (w.heap.size + 1) :: k) :: cs')
  cases e with
  | panicked c => exact hR.elim
  | outgrown => exact hR.elim
  | returned v =>
    obtain ⟨r, hl, hst, hE⟩ := hR
    obtain ⟨fr2, w3, hF, hs⟩ := hE cs'
    have hback : step P (lone fr (on b a' (.inRangeFunc (w.heap.size + 1) :: k) :: cs') w') = .next (lone (on b a' (.endRangeFunc (w.heap.size + 1) :: k)) cs' w') := step_leave_returned hleave
    have hendl : (Instr.endLoop (w.heap.size + 1)).run P w' = .ok r.pending { w' with heap := w'.heap.setIfInBounds (w.heap.size + 1) (.loop { r with state := .exhausted }) } := by
      simp [Instr.endLoop, Instr.getLoop, getObj, setObj, Sem.run, hl, hst, bind, Sem.bind, pure]
    have hend : step P (lone (on b a' (.endRangeFunc (w.heap.size + 1) :: k)) cs' w') = .next (lone (on b a' ((r.pending.map Item.code).toList ++ k)) cs' { w' with heap := w'.heap.setIfInBounds (w.heap.size + 1) (.loop { r with state := .exhausted }) }) :=
      step_lone_go (by simp [stepG, stepG.exec, on, hendl])
    exact ⟨fr2, w3, hF, .head hstep1 (Steps.trans hcomes (.head hback (.head hend hs)))⟩

theorem GE_range {C : Cx} {L : Slots} {D : List Deferred} {H : Items} {k : List Item} {f : Operand} {params : Array Tmp} {assign body : Code} {fi : FuncId} {fs cs : Array Value}
    (hr : C.b.roundOf = none) (hf : ev L f = some (.func (.func fi) fs cs)) (hrun : runs C.P fi = true)
    (h : ∀ (T : Array Value) (l q : Nat) (r0 : Loop), r0 = { state := .ready, pending := none, fn := C.b.fn, tmps := T, params := params, assign := assign, body := body, defers := q } → T.size = C.N → (∀ t v, look L t = some v → T[t]? = some v) → ∀ w,
      SH C.w0 C.M ((l, .loop r0) :: (q, .deferred (some [])) :: H) w →
      Ret C.P fi (fs.toList ++ [Value.func (.yield l) #[] #[]] ++ cs.toList).toArray w fun _ w' => ∃ r H', r.state ≠ .busy ∧ SH C.w0 C.M ((l, .loop r) :: (q, .deferred (some [])) :: H') w' ∧ GE C L ({ target := .collected q, args := #[] } :: D) ((q, .deferred (some [])) :: H') ((r.pending.map Item.code).toList ++ k)) :
    GE C L D H (.code (.rangeFunc f params assign body) :: k) := by
  intro a w s m
  have m1 := (m.alloc (.deferred (some []))).alloc (.loop { state := .ready, pending := none, fn := C.b.fn, tmps := a.tmps, params := params, assign := assign, body := body, defers := w.heap.size })
  simp only [Array.size_push] at m1
  obtain ⟨fs⟩ := fs
  obtain ⟨cs⟩ := cs
  refine E_range C.hb hr (s.eval hf) hrun ?_
  have e : (⟨fs⟩ : Array Value) ++ #[.func (.yield (w.heap.size + 1)) #[] #[]] ++ ⟨cs⟩ = (fs ++ [Value.func (.yield (w.heap.size + 1)) #[] #[]] ++ cs).toArray := by simp
  rw [e]
  refine (h a.tmps (w.heap.size + 1) w.heap.size _ rfl s.size s.slot _ m1).mono fun v w' ⟨r, H', hst, m', hE⟩ => ?_
  refine ⟨r, (m'.item _ (List.mem_cons_self ..)).2, hst, hE _ _ ⟨s.size, by simp [s.defers], s.slot⟩ ?_⟩
  have := m'.set (.loop { r with state := .exhausted })
  exact this.drop (fun p hp => List.mem_cons_of_mem _ hp) (by have := this.nd; simp only [List.map_cons, List.nodup_cons] at this ⊢; exact this.2)
theorem HS.last {C : Cx} {H H1 I : Items} [h : HChunk I H H1] : HS C H I := ⟨H1, h.perm⟩
theorem YieldTo.chunk {P : Program} {w0 : World} {M : Nat → Prop} {l : Nat} {args : List Value} {H J G : Items} {R : Value → Items → Prop} (h : YieldTo P w0 M l args (J ++ G) R) [hc : HChunk J H G] : YieldTo P w0 M l args H R := fun w m => h w (m.perm hc.perm)
theorem lookI {L : Slots} {t : Nat} {x y : Int} (h : Go.Sx.look L t = some (.int .i64 x)) (e : x = y) : Go.Sx.look L t = some (.int .i64 y) := e ▸ h
/-! ### loops in which ranges run, each of which leaves a deferred call -/
theorem GE_loopD {C : Cx} {k : List Item} {ι : Type} (m : ι → Nat) (L : ι → Slots) (D : ι → List Deferred) (H : ι → Items) (p : ι → Prop) {c : Code}
    (h : ∀ x, p x → (∀ y, p y → m y < m x → GE C (L y) (D y) (H y) (.inLoop c :: k)) → GE C (L x) (D x) (H x) (.code c :: .inLoop c :: k)) (x : ι) (hx : p x) :
    GE C (L x) (D x) (H x) (.code (.loop c) :: k) := by
  have key : ∀ n x, m x = n → p x → GE C (L x) (D x) (H x) (.code c :: .inLoop c :: k) := by
    intro n
    induction n using Nat.strongRecOn with
    | _ n ih =>
      intro x hn hx
      exact h x hx fun y hy hlt => GE_inLoop (ih (m y) (hn ▸ hlt) y rfl hy)
  exact fun a w s m' => E_loop (key _ x rfl hx a w s m')
def dq (qs : List Nat) : List Deferred := qs.map fun q => { target := .collected q, args := #[] }
def iq (qs : List Nat) : Items := qs.map fun q => (q, .deferred (some []))
instance HChunk.iqNil {H : Items} : HChunk (iq []) H H := ⟨.refl _⟩
instance HChunk.iqCons {q : Nat} {qs : List Nat} {H H1 H2 : Items} [h1 : HTake q H (.deferred (some [])) H1] [h2 : HChunk (iq qs) H1 H2] : HChunk (iq (q :: qs)) H H2 := ⟨h1.perm.trans (h2.perm.cons _)⟩
theorem EndOf_qs {P : Program} {fn : Func} {R : Value → World → Prop} {tmps : Array Value} {w0 : World} {M : Nat → Prop} {H : Items} (hR : ∀ w, SH w0 M H w → ∃ v, (results fn tmps).run P w = .ok v w ∧ R v w) : ∀ (qs : List Nat) (w : World), SH w0 M (iq qs ++ H) w → EndOf P fn R tmps (dq qs) w
  | [], w, m => hR w m
  | q :: qs, w, m => by
    have m1 : SH w0 M ((q, .deferred (some [])) :: (iq qs ++ H)) w := m
    refine ⟨(m1.item _ (List.mem_cons_self ..)).2, EndOf_qs hR qs _ ?_⟩
    exact (m1.set (.deferred none)).drop (fun p hp => List.mem_cons_of_mem _ hp) (by have := m1.nd; simp only [List.map_cons, List.nodup_cons] at this; exact this.2)
section
variable {P : Program} {hm : P.follows .mixedOrders = true} {f N : Nat} {w0 : World} {M : Nat → Prop} {R : Value → World → Prop} {L : Slots} {H H' : Items} {k : List Item} {fn : Func} {v : Value} {qs : List Nat}
theorem GE_retq [hc : HChunk (iq qs) H H'] (hf : P.funcs[f]? = some fn) (hv : RVs (cx P hm f N w0 M R) L H' fn.results v) (hR : ∀ w, SH (cx P hm f N w0 M R).w0 (cx P hm f N w0 M R).M H' w → R v w) : GE (cx P hm f N w0 M R) L (dq qs) H (.code .ret :: k) := by
  intro a w s m
  refine E_ret (b := base f) rfl rfl hf ?_
  rw [s.defers]
  exact EndOf_qs (fun w m => ⟨v, hv.run s m, hR w m⟩) qs w (m.perm hc.perm)
theorem GE_endq [hc : HChunk (iq qs) H H'] (hf : P.funcs[f]? = some fn) (hv : RVs (cx P hm f N w0 M R) L H' fn.results v) (hR : ∀ w, SH (cx P hm f N w0 M R).w0 (cx P hm f N w0 M R).M H' w → R v w) : GE (cx P hm f N w0 M R) L (dq qs) H [] := by
  intro a w s m
  refine E_nil (b := base f) rfl rfl hf ?_
  rw [s.defers]
  exact EndOf_qs (fun w m => ⟨v, hv.run s m, hR w m⟩) qs w (m.perm hc.perm)
end
theorem SH.hs {C : Cx} {H H' : Items} {w : World} (m : SH C.w0 C.M H w) (h : HS C H H') : SH C.w0 C.M H' w := h.sh w m
theorem GE_D {C : Cx} {L : Slots} {D D' : List Deferred} {H : Items} {k : List Item} (h : GE C L D' H k) (e : D = D') : GE C L D H k := e ▸ h
theorem HS.eq {C : Cx} {H X Y : Items} (h : HS C H X) (e : X = Y) : HS C H Y := e ▸ h
theorem V_isT {C : Cx} {L : Slots} {H : Items} {o : Oper} {p : Prop} [Decidable p] (h : OpV C L H o (.bool (decide p))) (hp : p) : OpV C L H o (.bool true) := by rw [decide_eq_true hp] at h; exact h
theorem V_isF {C : Cx} {L : Slots} {H : Items} {o : Oper} {p : Prop} [Decidable p] (h : OpV C L H o (.bool (decide p))) (hp : ¬ p) : OpV C L H o (.bool false) := by rw [decide_eq_false hp] at h; exact h
end Go.Sx
