/- Texts of this proof, one behind the other: SxO, SxS, SxT, SxU, SxV. -/
import Derived.Test.YtpbflnfcgcldkaaGreatDoorMt12
import Derived.Lib.Builder
import Derived.Laws.Externs
/-
  What strings.Builder's copyCheck asks: pointers as they are.
-/
namespace Go.Sx
open Go.RowKit
section
variable {C : Cx} {L : Slots} {H : Items} {o : Oper} {t t' e : TypeId} {x y : Operand}
theorem equal_nilptr {P : Program} {w : World} {tp te : TypeId} (hp : P.underlying tp = some (.pointer te)) (A : Option Addr) : (Op.equal tp (.pointer A) (.pointer none)).run P w = .ok A.isNone w := by
  have h : ∀ d : Nat, (Op.equalIn (d + 1) tp (.pointer A) (.pointer none)).run P w = .ok A.isNone w := fun d => by
    cases A <;> simp [Op.equalIn, run_underlying hp]
  simp [Op.equal, Op.maxDepth, h 9999]
theorem V_eqlNilPtr {A : Option Addr} (ho : o.op = .binOp .eql t x y t') (hx : ev L x = some (.pointer A)) (hy : ev L y = some (.pointer none)) (ht : C.P.underlying t = some (.pointer e)) : OpV C L H o (.bool A.isNone) := fun D a w s _ => by
  have key := equal_nilptr (w := w) ht A
  simp [execOp, ho, s.eval hx, s.eval hy, eqGuard, binOp, key]
end
end Go.Sx
/-
  Slices of slices with a greatest capacity.
-/
namespace Go.Sx
open Go.RowKit
section
variable {C : Cx} {L : Slots} {H : Items} {o : Oper}
end
section
variable {C : Cx} {k : List Item} {L : Slots} {D : List Deferred} {H : Items} {ops : Array Oper} {i d : Nat} {o : Oper} {n : Tr} {pend : List Nat}
theorem GT_makeSliceC {t e sz by_ nn mm : Nat} {x y : Operand} {k1 k2 : IntKind} {z1 z2 : Int} {z : List Value} (ho : opAt ops i = some o) (hop : o.op = .makeSlice t x y) (hg : o.guard = none) (hd : o.dst = some d) (hN : Nat.blt d C.N = true) (hx : ev L x = some (.int k1 z1)) (hy : ev L y = some (.int k2 z2)) (ht : C.P.underlying t = some (.slice e)) (hz : zcOf C.P e = some z) (hs : szOf C.P e = some sz) (hb : byOf C.P e = some by_)
    (h12 : z1 = (mm : Int) ∧ z2 = (nn : Int) ∧ z.length = sz) (hmn : mm ≤ nn) (hn : nn ≤ 1099511627776 ∧ by_ * nn ≤ 281474976710656)
    (hp : ∀ b, GR C ops ((d, .slice (some ⟨b, 0, none⟩) mm nn) :: L) D ((b, blk ((List.replicate nn z).flatten) e) :: H) pend) (h : ∀ b, GT C ops k ((d, .slice (some ⟨b, 0, none⟩) mm nn) :: L) D ((b, blk ((List.replicate nn z).flatten) e) :: H) n) : GT C ops k L D H (.ld i pend n) := by
  refine GT_ld ho hg (by simp [Oper.isDefer, hop]) fun a w s m => ?_
  obtain ⟨v, hv, rfl⟩ := Option.map_eq_some_iff.1 hz
  obtain ⟨inf, hi, hz0⟩ := Option.bind_eq_some_iff.1 hv
  obtain ⟨inf', hi', rfl⟩ := Option.map_eq_some_iff.1 hs
  obtain ⟨inf'', hi'', rfl⟩ := Option.map_eq_some_iff.1 hb
  rw [hi] at hi' hi''; cases hi'; cases hi''
  have hsz : v.cells.toList.length = inf.size := h12.2.2
  obtain ⟨rfl, rfl, _⟩ := h12
  have hby : (inf.bytes : Int) * (nn : Int) ≤ 281474976710656 := by
    have : ((inf.bytes * nn : Nat) : Int) ≤ 281474976710656 := by omega
    rwa [Int.natCast_mul] at this
  have hrun := run_make (P := C.P) w t e inf v ht hi hz0 k1 k2 mm nn (by omega) (by omega) hby (by omega)
  simp only [Int.toNat_natCast] at hrun
  have e1 : (execOp a.eval o).run C.P w = .ok (.value (.slice (some ⟨w.heap.size, 0, none⟩) mm nn)) { w with heap := w.heap.push (.cells (madeCells v.cells (nn * inf.size)) e) } := by
    simp only [execOp, hop, s.eval hx, s.eval hy, Sem.run_bind, hrun, Result.andThen_ok]
    rfl
  rw [e1]
  have e2 : madeCells v.cells (nn * inf.size) = ((List.replicate nn v.cells.toList).flatten).toArray := made_eq nn _ _ hsz.symm
  rw [e2]
  exact ⟨_, _, by rw [hd]; exact s.put hN _, m.alloc _, hp _, h _⟩
end
end Go.Sx
/-
  Interfaces that hold a struct: making one, and calling a method of one by a bound method value.
-/
namespace Go.Sx
open Go.RowKit
section
variable {C : Cx} {L : Slots} {H : Items} {o : Oper}
theorem V_eqv {v v' : Value} (h : OpV C L H o v) (e : v = v') : OpV C L H o v' := e ▸ h
theorem V_mkIface {t : TypeId} {x : Operand} {v : Value} (ho : o.op = .makeInterface t x) (hx : ev L x = some v) (ha : aggOf C.P t = some true) : OpV C L H o (.iface t v) := fun D a w s m => by
  obtain ⟨d, hd, hb⟩ := Option.map_eq_some_iff.1 ha
  cases d <;> simp at hb
  all_goals simp [execOp, ho, s.eval hx, Instr.makeInterface, underlying, hd]
theorem V_nilCheck_iface {x : Operand} {t : TypeId} {v : Value} (ho : o.op = .nilCheck x) (hx : ev L x = some (.iface t v)) : OpV C L H o (.iface t v) := fun D a w s m => by
  simp [execOp, ho, s.eval hx]
end
def methOf (P : Program) (t : TypeId) (name : String) : Option (FuncId × Bool) :=
  match P.info? t with
  | some i => match i.methods.find? (·.name == name) with
    | some m => if m.path.isEmpty then m.func else none
    | none => none
  | none => none
theorem run_method {P : Program} {w : World} {t : TypeId} {name : String} {f : FuncId} {v : Value} (n : Nat) (h : methOf P t name = some (f, false)) (ha : aggOf P t = some true) : (method (n + 1) t v name).run P w = .ok (f, v) w := by
  obtain ⟨d, hd, hb⟩ := Option.map_eq_some_iff.1 ha
  unfold methOf at h
  cases hi : P.info? t with
  | none => rw [hi] at h; cases h
  | some i =>
    rw [hi] at h
    dsimp only at h
    cases hm : i.methods.find? (·.name == name) with
    | none => rw [hm] at h; cases h
    | some mm =>
      rw [hm] at h
      dsimp only at h
      by_cases hp : mm.path.isEmpty = true
      · rw [if_pos hp] at h
        have hp2 : mm.path.toList = [] := by simpa using hp
        cases d <;> simp at hb
        all_goals simp [method, typeInfo, hi, hm, hp2, follow, h, receiverAt, underlying, hd, Place.get]
      · rw [if_neg hp] at h; cases h
section
variable {C : Cx} {L : Slots} {D : List Deferred} {H : Items} {k : List Item} {ops : Array Oper} {i d : Nat} {o : Oper} {n : Tr} {pend : List Nat}
theorem GT_callM {v : Value} {name : String} {t : TypeId} {r : Value} {f : Operand} {args : Array Operand} {ts : Array TypeId} {fi : FuncId} {fs cs : Array Value} {vs args' : List Value}
    (ho : opAt ops i = some o) (hop : o.op = .call { callee := .value f, args := args, argTypes := ts }) (hg : o.guard = none) (hd : o.dst = some d) (hN : Nat.blt d C.N = true)
    (hf : ev L f = some (.func (.method name) fs cs)) (ha : evs L args.toList = some vs) (he : fs.toList ++ vs = .iface t r :: args') (hme : methOf C.P t name = some (fi, false)) (hag : aggOf C.P t = some true) (hb : runs C.P fi = true)
    (hc : ∀ w, SH C.w0 C.M H w → Con0 C.P fi (r :: args') w v) (hp : GR C ops ((d, v) :: L) D H pend) (h : GT C ops k ((d, v) :: L) D H n) : GT C ops k L D H (.ld i pend n) := by
  refine GT_ld ho hg (by simp [Oper.isDefer, hop]) fun a w s m => ?_
  have hrun : (execOp a.eval o).run C.P w = .ok (.enter fi (r :: args').toArray) w := by
    obtain ⟨fn, c, hfn, hbody, hname⟩ := runs_of hb
    have e0 : args.map a.eval = vs.toArray := by
      have := s.evals ha
      rw [← this]; obtain ⟨l⟩ := args; simp
    have e1 : fs ++ vs.toArray = (Value.iface t r :: args').toArray := by rw [← he]; simp
    have e2 : ((Value.iface t r :: args').toArray).extract 1 ((Value.iface t r :: args').toArray).size = args'.toArray := by simp
    have hm := fun q => run_method (P := C.P) (w := w) (v := r) q hme hag
    have hfu : ∃ q, C.P.types.size + Made.depth = q + 1 := ⟨C.P.types.size + 99, rfl⟩
    obtain ⟨q, hq⟩ := hfu
    simp [execOp, hop, resolve, s.eval hf, Deferred.ofValue, invoke, callMethod, hq, hm, callFunc, hfn, hbody, hname, e0, e1, e2]
  rw [hrun]
  exact (hc w m).mono fun v' w' ⟨hv, m'⟩ => by
    subst hv
    exact ⟨_, _, by rw [hd]; exact s.put hN _, m.trans m', hp, h⟩
end
end Go.Sx
/-
  A deferred call of a closure that recovers: begun in a plain region, carried out at the end.
-/
namespace Go.Sx
open Go.RowKit
/-! ### operations in a frame of any kind -/
theorem E_opK {P : Program} {F : Frame → World → Prop} {b : Frame} {k : List Item} {a : Act} {w : World} {ops : Array Oper} {i : Nat} {rest : List Nat} {o : Oper}
    (ho : ops[i]? = some o) (hw : Region.wanted o (yielded ops a.tmps) = true) (hd : Oper.isDefer o = false)
    (h : NextOk P ((execOp a.eval o).run P w) fun v w' => E P F b (.inRegion ops rest :: k) (a.put o.dst v) w') :
    E P F b (.inRegion ops (i :: rest) :: k) a w := by
  have he := on_eval b a (.inRegion ops (i :: rest) :: k)
  have hop : (on b a (.inRegion ops (i :: rest) :: k)).oper? = some o := by simp [on, Frame.oper?, ho]
  have hfin : ∀ v, (on b a (.inRegion ops (i :: rest) :: k)).finish v = on b (a.put o.dst v) (.inRegion ops rest :: k) := by
    intro v
    cases hdst : o.dst <;> simp [Frame.finish, on, Act.put, ho, hdst]
  have hg : ∀ cs, stepG P true { frame := on b a (.inRegion ops (i :: rest) :: k), callers := cs, status := .running, dying := none } w =
      stepG.apply P true (on b a (.inRegion ops (i :: rest) :: k)) cs none (execOp a.eval o) w := by
    intro cs
    have hm : (on b a (.inRegion ops (i :: rest) :: k)).mode = .run := rfl
    simp only [stepG, hm]
    have ht : (on b a (.inRegion ops (i :: rest) :: k)).todo = .inRegion ops (i :: rest) :: k := rfl
    have htm : (on b a (.inRegion ops (i :: rest) :: k)).tmps = a.tmps := rfl
    simp only [stepG.exec, ht, htm, ho, Option.map_some, hw, Option.getD_some, if_true, stepG.oper, hop, he]
    cases hr : (on b a (.inRegion ops (i :: rest) :: k)).roundOf with
    | none => rfl
    | some l =>
      cases hoo : o.op <;> simp [Oper.isDefer, hoo] at hd <;> rfl
  intro cs
  have hkind : (match (on b a (.inRegion ops (i :: rest) :: k)).todo with | .call _ true _ _ :: _ => CallKind.wrapped | _ => CallKind.normal) = .normal := rfl
  cases hrun : (execOp a.eval o).run P w with
  | halt x w' => rw [hrun] at h; exact h.elim
  | ok n w' =>
    rw [hrun] at h
    cases n <;> simp only [NextOk] at h <;> first
      | exact h.elim
      | skip
    case value v =>
      obtain ⟨fr, w'', hF, hs⟩ := h cs
      refine ⟨fr, w'', hF, .head (step_lone_go ?_) hs⟩
      rw [hg, ← hfin]; simp [stepG.apply, hrun]
    case skip =>
      obtain ⟨fr, w'', hF, hs⟩ := h cs
      refine ⟨fr, w'', hF, .head (step_lone_go ?_) hs⟩
      rw [hg, ← hfin]; simp [stepG.apply, hrun]
    case enter f args =>
      obtain ⟨e, w'', fr, hR, hcomes, _, hleave⟩ := h (on b a (.inRegion ops (i :: rest) :: k) :: cs)
      have henter : step P (lone (on b a (.inRegion ops (i :: rest) :: k)) cs w) = .next (lone (Frame.enter P f args .normal) (on b a (.inRegion ops (i :: rest) :: k) :: cs) w') :=
        step_lone_go (by rw [hg]; simp [stepG.apply, hrun, on])
      cases e with
      | returned v =>
        obtain ⟨fr2, w3, hF, hs⟩ := hR cs
        refine ⟨fr2, w3, hF, .head henter (Steps.trans hcomes (.head ?_ hs))⟩
        rw [← hfin]; exact step_leave_returned hleave
      | panicked c => exact hR.elim
      | outgrown => exact hR.elim
    case round l f tmps assign body =>
      obtain ⟨v, w'', hR, hsteps⟩ := h (on b a (.inRegion ops (i :: rest) :: k)) cs
      obtain ⟨fr2, w3, hF, hs⟩ := hR cs
      have henter : step P (lone (on b a (.inRegion ops (i :: rest) :: k)) cs w) = .next (lone (Frame.round l f tmps assign body .normal) (on b a (.inRegion ops (i :: rest) :: k) :: cs) w') :=
        step_lone_go (by rw [hg]; simp [stepG.apply, hrun, on])
      refine ⟨fr2, w3, hF, .head henter (hsteps.trans ?_)⟩
      rw [hfin]; exact hs
    case row row args =>
      obtain ⟨v, w'', hR, hsteps⟩ := h (on b a (.inRegion ops (i :: rest) :: k)) cs
      obtain ⟨fr2, w3, hF, hs⟩ := hR cs
      have henter : step P (lone (on b a (.inRegion ops (i :: rest) :: k)) cs w) = .next (lone (Frame.ofRow P row args .normal) (on b a (.inRegion ops (i :: rest) :: k) :: cs) w') :=
        step_lone_go (by rw [hg]; simp [stepG.apply, hrun, on])
      refine ⟨fr2, w3, hF, .head henter (hsteps.trans ?_)⟩
      rw [hfin]; exact hs
theorem E_deferOp {P : Program} {F : Frame → World → Prop} {b : Frame} {k : List Item} {a : Act} {w : World} {ops : Array Oper} {i : Nat} {rest : List Nat} {o : Oper} {c : Call} {d : Deferred}
    (hr : b.roundOf = none) (ho : ops[i]? = some o) (hw : Region.wanted o (yielded ops a.tmps) = true) (hop : o.op = .defer c) (hd : o.dst = none) (hres : (resolve a.eval c o.type).run P w = .ok d w)
    (h : E P F b (.inRegion ops rest :: k) { a with defers := d :: a.defers } w) : E P F b (.inRegion ops (i :: rest) :: k) a w := by
  have he := on_eval b a (.inRegion ops (i :: rest) :: k)
  have hoper : (on b a (.inRegion ops (i :: rest) :: k)).oper? = some o := by simp [on, Frame.oper?, ho]
  have hrd : (on b a (.inRegion ops (i :: rest) :: k)).roundOf = none := hr
  have hrun : (execOp a.eval o).run P w = .ok (.defer d) w := by simp [execOp, hop, hres]
  have hg : ∀ cs, stepG P true { frame := on b a (.inRegion ops (i :: rest) :: k), callers := cs, status := .running, dying := none } w =
      stepG.apply P true (on b a (.inRegion ops (i :: rest) :: k)) cs none (execOp a.eval o) w := by
    intro cs
    have hm : (on b a (.inRegion ops (i :: rest) :: k)).mode = .run := rfl
    simp only [stepG, hm]
    have ht : (on b a (.inRegion ops (i :: rest) :: k)).todo = .inRegion ops (i :: rest) :: k := rfl
    have htm : (on b a (.inRegion ops (i :: rest) :: k)).tmps = a.tmps := rfl
    simp only [stepG.exec, ht, htm, ho, Option.map_some, hw, Option.getD_some, if_true, stepG.oper, hoper, he, hrd]
  refine h.step fun cs => step_lone_go ?_
  rw [hg]
  simp [stepG.apply, hrun, Frame.finish, on, ho, hd]
section
variable {C : Cx} {L : Slots} {D : List Deferred} {H : Items} {k : List Item}
theorem GE_defer {id : Nat} {o0 o1 : Oper} {d0 : Nat} {v0 : Value} {x : Operand} {f : FuncId} {fs cs : Array Value} {ts : Array TypeId} (hr : C.b.roundOf = none) (g0 : o0.guard = none) (g1 : o1.guard = none) (hd0 : o0.dst = some d0) (hN : Nat.blt d0 C.N = true)
    (hv : OpV C L H o0 v0) (hdf : Oper.isDefer o0 = false) (hop : o1.op = .defer { callee := .value x, args := #[], argTypes := ts }) (hd1 : o1.dst = none) (hx : ev ((d0, v0) :: L) x = some (.func (.func f) fs cs))
    (h : GE C ((d0, v0) :: L) ({ target := .fn (.func f) cs, args := fs } :: D) H k) : GE C L D H (.code (.region id #[o0, o1] false) :: k) := by
  intro a w s m
  refine E_region ?_
  show E C.P C.F C.b (.inRegion #[o0, o1] [0, 1] :: k) a w
  refine E_op C.hb (o := o0) rfl (wanted_none g0 _) hdf ?_
  rw [hv D a w s m]
  have s1 : St C.N ((d0, v0) :: L) D (a.put o0.dst v0) := by rw [hd0]; exact s.put hN v0
  refine E_deferOp (o := o1) hr rfl (wanted_none g1 _) hop hd1 (d := { target := .fn (.func f) cs, args := fs }) ?_ ?_
  · simp [resolve, s1.eval hx, Deferred.ofValue]
  · refine E_region_end ?_
    exact h _ _ ⟨s1.size, by rw [← s1.defers], s1.slot⟩ m
end
section
variable {P : Program} {hm : P.follows .mixedOrders = true} {f N : Nat} {w0 : World} {M : Nat → Prop} {R : Value → World → Prop} {L : Slots} {H : Items} {k : List Item} {fn : Func} {v : Value} {g : FuncId} {fs cs : Array Value}
def BackD (P : Program) (g : FuncId) (args : Array Value) : Prop := ∀ (fr : Frame) (cs' : List Frame) (w : World), fr.mode = .returning → Steps P (lone (Frame.enter P g args .deferred) (fr :: cs') w) (lone fr cs' w)
theorem GE_retF (hf : P.funcs[f]? = some fn) (hg : runs P g = true) (hb : BackD P g (fs ++ cs)) (hv : RVs (cx P hm f N w0 M R) L H fn.results v) (hR : ∀ w, SH w0 M H w → R v w) :
    GE (cx P hm f N w0 M R) L [{ target := .fn (.func g) cs, args := fs }] H (.code .ret :: k) := by
  intro a w s m cs0
  obtain ⟨fn', c, hfn, hbody, hname⟩ := runs_of hg
  have hinv : (invoke (.fn (.func g) cs) fs).run P w = .ok (.enter g (fs ++ cs)) w := by simp [invoke, callFunc, hfn, hbody, hname]
  have hres := hv.run s m
  have hde := s.defers
  have hdr : (default : Frame).roundOf = none := rfl
  refine ⟨{ on (base f) a (.code .ret :: k) with mode := .returning, defers := [] }, w, ⟨rfl, v, hR w m, rfl, rfl, rfl, fn, hf, hres⟩, ?_⟩
  have h1 : step P (lone (on (base f) a (.code .ret :: k)) cs0 w) = .next (lone { on (base f) a (.code .ret :: k) with mode := .returning } cs0 w) := step_lone_go (by simp [stepG, stepG.exec, on, base, hdr])
  have h2 : step P (lone { on (base f) a (.code .ret :: k) with mode := .returning } cs0 w) = .next (lone (Frame.enter P g (fs ++ cs) .deferred) ({ on (base f) a (.code .ret :: k) with mode := .returning, defers := [] } :: cs0) w) :=
    step_lone_go (by simp [stepG, unwind, on, hde, callDeferred, hinv])
  exact .head h1 (.head h2 (hb _ _ _ rfl))
end
/-! ### a closure that recovers -/
theorem equal_nilIface {P : Program} {w : World} {t : TypeId} {ms : Array (String × TypeId)} (ht : P.underlying t = some (.interface ms)) : (Op.equal t .nilIface .nilIface).run P w = .ok true w := by
  have : ∀ d, (Op.equalIn (d + 1) t .nilIface .nilIface).run P w = .ok true w := fun d => by rw [Op.equalIn]; simp [underlying, ht]
  exact this _
structure Rec (P : Program) (g : FuncId) (fn : Func) (o0 o1 o2 o3 : Oper) (i0 i1 d0 d1 d2 d3 : Nat) (x : Code) : Prop where
  f : P.funcs[g]? = some fn
  body : fn.body = some (.seq (.region i0 #[o0, o1] false) (.seq (.region i1 #[o2, o3] false) (.cond (.tmp d3) x .skip)))
  g0 : o0.guard = none
  g1 : o1.guard = none
  g2 : o2.guard = none
  g3 : o3.guard = none
  h0 : o0.op = .call { callee := .builtin .recover, args := #[], argTypes := #[] }
  h1 : o1.op = .assign (.tmp d0)
  h2 : o2.op = .move (.tmp d1)
  h3 : ∃ t ms t', o3.op = .binOp .neq t (.tmp d2) (.const .nilIface) t' ∧ P.underlying t = some (.interface ms)
  e0 : o0.dst = some d0
  e1 : o1.dst = some d1
  e2 : o2.dst = some d2
  e3 : o3.dst = some d3
  lt : d0 < fn.ntmps ∧ d1 < fn.ntmps ∧ d2 < fn.ntmps ∧ d3 < fn.ntmps
  res : fn.results = #[]
theorem put_eval {a : Act} {d : Nat} {v : Value} (h : d < a.tmps.size) : (a.put (some d) v).eval (.tmp d) = v := by
  simp [Act.put, Act.eval, h]
theorem BackD.rec {P : Program} {g : FuncId} {fn : Func} {o0 o1 o2 o3 : Oper} {i0 i1 d0 d1 d2 d3 : Nat} {x : Code} {args : Array Value} (h : Rec P g fn o0 o1 o2 o3 i0 i1 d0 d1 d2 d3 x) (ha : args.size ≤ fn.ntmps) : BackD P g args := by
  intro fr cs' w hmode
  obtain ⟨hf, hb, g0, g1, g2, g3, h0, h1, h2, ⟨t, ms, t', h3, ht⟩, e0, e1, e2, e3, ⟨l0, l1, l2, l3⟩, hres⟩ := h
  let b : Frame := { (default : Frame) with fn := g, kind := .deferred }
  let a0 : Act := { tmps := args ++ Array.replicate (fn.ntmps - args.size) undef, defers := [] }
  have hsz : a0.tmps.size = fn.ntmps := by simp [a0]; omega
  have hdr : b.roundOf = none := rfl
  have henter : Frame.enter P g args .deferred = on b a0 [.code (.seq (.region i0 #[o0, o1] false) (.seq (.region i1 #[o2, o3] false) (.cond (.tmp d3) x .skip)))] := by
    simp [Frame.enter, on, hf, hb, b, a0]; rfl
  rw [henter]
  -- the call of recover finds none
  let K : List Item := [.code (.seq (.region i1 #[o2, o3] false) (.cond (.tmp d3) x .skip))]
  have s1 : step P (lone (on b a0 [.code (.seq (.region i0 #[o0, o1] false) (.seq (.region i1 #[o2, o3] false) (.cond (.tmp d3) x .skip)))]) (fr :: cs') w) = .next (lone (on b a0 (.code (.region i0 #[o0, o1] false) :: K)) (fr :: cs') w) :=
    step_lone_go (by simp [stepG, stepG.exec, on, K])
  have s2 : step P (lone (on b a0 (.code (.region i0 #[o0, o1] false) :: K)) (fr :: cs') w) = .next (lone (on b a0 (.inRegion #[o0, o1] [0, 1] :: K)) (fr :: cs') w) :=
    step_lone_go (by simp [stepG, stepG.exec, on]; rfl)
  have hrun : (execOp a0.eval o0).run P w = .ok .recover w := by simp [execOp, h0, resolve, invoke, builtin]
  have s3 : step P (lone (on b a0 (.inRegion #[o0, o1] [0, 1] :: K)) (fr :: cs') w) = .next (lone (on b (a0.put o0.dst .nilIface) (.inRegion #[o0, o1] [1] :: K)) (fr :: cs') w) := by
    refine step_lone_go ?_
    have he := on_eval b a0 (.inRegion #[o0, o1] [0, 1] :: K)
    have hoper : (on b a0 (.inRegion #[o0, o1] [0, 1] :: K)).oper? = some o0 := by simp [on, Frame.oper?]
    have hg : stepG P true { frame := on b a0 (.inRegion #[o0, o1] [0, 1] :: K), callers := fr :: cs', status := .running, dying := none } w = stepG.apply P true (on b a0 (.inRegion #[o0, o1] [0, 1] :: K)) (fr :: cs') none (execOp a0.eval o0) w := by
      have hm : (on b a0 (.inRegion #[o0, o1] [0, 1] :: K)).mode = .run := rfl
      have ht : (on b a0 (.inRegion #[o0, o1] [0, 1] :: K)).todo = .inRegion #[o0, o1] [0, 1] :: K := rfl
      have htm : (on b a0 (.inRegion #[o0, o1] [0, 1] :: K)).tmps = a0.tmps := rfl
      have hrd : (on b a0 (.inRegion #[o0, o1] [0, 1] :: K)).roundOf = none := rfl
      have hw : Region.wanted o0 (yielded #[o0, o1] a0.tmps) = true := wanted_none g0 _
      simp only [stepG, hm, stepG.exec, ht, htm, List.getElem?_toArray, List.getElem?_cons_zero, Option.map_some, hw, Option.getD_some, if_true, stepG.oper, hoper, he, hrd]
    rw [hg]
    have htr : tryRecover (on b a0 (.inRegion #[o0, o1] [0, 1] :: K)) (fr :: cs') = none := by simp [tryRecover, on, b, hmode]
    have hrd : (on b a0 (.inRegion #[o0, o1] [0, 1] :: K)).roundOf = none := rfl
    simp only [stepG.apply, hrun, hrd, htr, if_true]
    simp [Frame.finish, on, e0, Act.put, hrun, htr]
  -- what follows only looks
  let F : Frame → World → Prop := fun fr' w' => w' = w ∧ fr'.mode = .returning ∧ fr'.kind = .deferred ∧ fr'.defers = [] ∧ fr'.fn = g
  have hE : E P F b (.inRegion #[o0, o1] [1] :: K) (a0.put o0.dst .nilIface) w := by
    refine E_opK (o := o1) rfl (wanted_none g1 _) (by simp [Oper.isDefer, h1]) ?_
    have v0 : (a0.put o0.dst .nilIface).eval (.tmp d0) = .nilIface := by rw [e0]; exact put_eval (by omega)
    simp only [execOp, h1, v0]
    show E P F b _ _ w
    refine E_region_end (E_seq (E_region ?_))
    show E P F b (.inRegion #[o2, o3] [0, 1] :: _) _ w
    refine E_opK (o := o2) rfl (wanted_none g2 _) (by simp [Oper.isDefer, h2]) ?_
    have v1 : ((a0.put o0.dst .nilIface).put o1.dst .nilIface).eval (.tmp d1) = .nilIface := by rw [e1]; exact put_eval (by rw [put_size]; omega)
    simp only [execOp, h2, v1]
    show E P F b _ _ w
    refine E_opK (o := o3) rfl (wanted_none g3 _) (by simp [Oper.isDefer, h3]) ?_
    have v2 : (((a0.put o0.dst .nilIface).put o1.dst .nilIface).put o2.dst .nilIface).eval (.tmp d2) = .nilIface := by rw [e2]; exact put_eval (by rw [put_size, put_size]; omega)
    have v2' : (((a0.put o0.dst .nilIface).put o1.dst .nilIface).put o2.dst .nilIface).eval (.const .nilIface) = .nilIface := rfl
    have hq := equal_nilIface (P := P) (w := w) ht
    have hx3 : (execOp (((a0.put o0.dst .nilIface).put o1.dst .nilIface).put o2.dst .nilIface).eval o3).run P w = .ok (.value (.bool false)) w := by
      simp [execOp, h3, v2, v2', eqGuard, binOp, hq]
    rw [hx3]
    show E P F b _ _ w
    refine E_region_end (E_cond (t := false) ?_ (E_skip ?_))
    · rw [e3]; exact put_eval (by rw [put_size, put_size, put_size]; omega)
    · intro cs
      refine ⟨_, w, ⟨rfl, rfl, rfl, ?_, rfl⟩, .head (step_lone_go (fr' := { on b ((((a0.put o0.dst .nilIface).put o1.dst .nilIface).put o2.dst .nilIface).put o3.dst (.bool false)) [] with mode := .returning }) ?_) (.refl _ _)⟩
      · show (on b _ []).defers = []
        simp [on, put_defers, a0]
      · simp [stepG, stepG.exec, on, hdr]
  obtain ⟨fr', w', ⟨rfl, hm', hk', hd', hfn'⟩, hs⟩ := hE (fr :: cs')
  have hfn2 : P.funcs[fr'.fn]? = some fn := by rw [hfn']; exact hf
  have hr2 : (results fn fr'.tmps).run P w' = .ok (.tuple #[]) w' := by simp [results, hres]
  have hlast : step P (lone fr' (fr :: cs') w') = .next (lone fr cs' w') := step_lone_go (by simp [stepG, hm', unwind, hd', hfn2, hr2, doReturn, hk', hmode])
  exact .head s1 (.head s2 (.head s3 (hs.trans (.head hlast (.refl _ _)))))
end Go.Sx
/-
  Structs of numbers and truth values, compared with themselves.
-/
namespace Go.Sx
open Go.RowKit
def primF (P : Program) (fs : Array Field) : Bool := (List.range fs.size).all fun j => match fs[j]? with
  | some f => f.name != "_" && decide (f.offset = j) && (match P.underlying f.type with | some (.int _) => true | some .bool => true | _ => false)
  | none => false
def isPrims (P : Program) (t : TypeId) (n : Nat) : Bool := match P.underlying t with
  | some (.struct fs) => decide (fs.size = n) && primF P fs && !P.stoodInHeld t && !P.eqGuardType P.depth t
  | _ => false
def primV (P : Program) (t : TypeId) (v : Value) : Prop := (∃ k k' n, P.underlying t = some (.int k') ∧ v = .int k n) ∨ (∃ b, P.underlying t = some .bool ∧ v = .bool b)
theorem equal_prim {P : Program} {w : World} {t : TypeId} {v : Value} (d : Nat) (h : primV P t v) : (Op.equalIn (d + 1) t v v).run P w = .ok true w := by
  rcases h with ⟨k, k', n, ht, rfl⟩ | ⟨b, ht, rfl⟩
  · rw [equal_int d ht]; simp
  · rw [Op.equalIn]; simp [underlying, ht]
theorem part_prim {P : Program} {w : World} {t : TypeId} {cs : Array Value} {off : Nat} {v : Value} (h : primV P t v) (hv : cs[off]? = some v) : (part t cs off).run P w = .ok v w := by
  rcases h with ⟨k, k', n, ht, rfl⟩ | ⟨b, ht, rfl⟩ <;> simp [part, isAgg, underlying, ht, hv]
theorem eqFields_self {P : Program} {w : World} {d : Nat} {cs : List Value} : ∀ (fs : List Field), (∀ f ∈ fs, f.name ≠ "_" ∧ ∃ v, cs[f.offset]? = some v ∧ primV P f.type v) →
    (Op.eqFields (d + 1) cs.toArray cs.toArray fs).run P w = .ok true w
  | [], _ => by simp [Op.eqFields]
  | f :: fs, h => by
    obtain ⟨h1, v, h2, h3⟩ := h f (List.mem_cons_self ..)
    have p0 := part_prim (P := P) (w := w) (cs := cs.toArray) h3 (by simpa using h2)
    have e0 := equal_prim (w := w) d h3
    have ih := eqFields_self (P := P) (w := w) (d := d) (cs := cs) fs fun g hg => h g (List.mem_cons_of_mem _ hg)
    rw [Op.eqFields]
    simp [h1, p0, e0, ih]
def primOk (P : Program) (fs : Array Field) (cs : List Value) : Bool := (List.range fs.size).all fun j => match fs[j]?, cs[j]? with
  | some f, some (.int _ _) => (match P.underlying f.type with | some (.int _) => true | _ => false)
  | some f, some (.bool _) => (match P.underlying f.type with | some .bool => true | _ => false)
  | _, _ => false
def primsOk (P : Program) (t : TypeId) (cs : List Value) : Bool := match P.underlying t with
  | some (.struct fs) => primOk P fs cs
  | _ => false
theorem equal_self {P : Program} {w : World} {t : TypeId} {n : Nat} {cs : List Value} (hs : isPrims P t n = true) (hc : primsOk P t cs = true) (d : Nat) :
    (Op.equalIn (d + 1 + 1) t (.agg cs.toArray) (.agg cs.toArray)).run P w = .ok true w ∧ P.eqGuardType P.depth t = false := by
  unfold isPrims at hs
  unfold primsOk at hc
  split at hs
  · rename_i fs hu
    rw [hu] at hc
    simp only [Bool.and_eq_true, Bool.not_eq_true', decide_eq_true_iff] at hs
    obtain ⟨⟨⟨q1, q2⟩, q3⟩, q4⟩ := hs
    refine ⟨?_, q4⟩
    have hff : P.fieldsOf t = fs := by unfold Program.fieldsOf; rw [hu]
    rw [run_equalIn_struct w (d + 1) t _ _ (by rw [hff]; exact hu) q3, hff]
    refine eqFields_self fs.toList fun f hf => ?_
    obtain ⟨i, hi, rfl⟩ := List.mem_iff_getElem.1 hf
    have hi' : i < fs.size := by simpa using hi
    have hfi : fs[i]? = some fs[i] := by simp [hi']
    have h3 := List.all_eq_true.1 q2 i (by rw [List.mem_range]; exact hi')
    have h4 := List.all_eq_true.1 hc i (by rw [List.mem_range]; exact hi')
    rw [hfi] at h3 h4
    simp only [Bool.and_eq_true, decide_eq_true_iff, bne_iff_ne] at h3
    have e : fs.toList[i] = fs[i] := by simp
    rw [e]
    refine ⟨h3.1.1, ?_⟩
    rw [h3.1.2]
    cases hv : cs[i]? with
    | none => rw [hv] at h4; cases h4
    | some v =>
      rw [hv] at h4
      refine ⟨v, rfl, ?_⟩
      cases v <;> simp only [Bool.false_eq_true] at h4
      · split at h4
        · rename_i hb; exact .inr ⟨_, hb, rfl⟩
        · cases h4
      · split at h4
        · rename_i k' hk; exact .inl ⟨_, k', _, hk, rfl⟩
        · cases h4
  · cases hs
section
variable {C : Cx} {L : Slots} {H : Items} {o : Oper} {t t' : TypeId} {x y : Operand} {n : Nat} {cs : List Value}
theorem V_neqSelf (ho : o.op = .binOp .neq t x y t') (hx : ev L x = some (.agg cs.toArray)) (hy : ev L y = some (.agg cs.toArray)) (hs : isPrims C.P t n = true) (hc : primsOk C.P t cs = true) : OpV C L H o (.bool false) := fun D a w st m => by
  have h1 := fun d => (equal_self (w := w) hs hc d).1
  have h2 := (equal_self (P := C.P) (w := w) hs hc 0).2
  have h3 : (Op.equal t (.agg cs.toArray) (.agg cs.toArray)).run C.P w = .ok true w := h1 _
  simp [execOp, ho, st.eval hx, st.eval hy, eqGuard, binOp, h3, h2]
end
end Go.Sx
