/- Texts of this proof, one behind the other: SxQ, SxS, SxT, SxU, SxV. -/
import Derived.Test.YtpbflnfcgcldkaaGreatDoorMt13
import Derived.Lib.Strings
import Derived.Test.YtpbflnfcgcldkaaGreatDoorMt12
/-
  Pieces of strings, said over lists of bytes.
-/
namespace Go.Sx
open Go.RowKit
theorem stz_extract (l : List UInt8) (lo hi : Nat) : (stz l).extract lo hi = stz ((l.drop lo).take (hi - lo)) := by
  rw [← stz_byz ((stz l).extract lo hi)]
  congr 1
  show ((stz l).extract lo hi).data.toList = _
  rw [Go.Lib.extract_data]
theorem stz_size (l : List UInt8) : (stz l).size = l.length := by rw [← byz_len, byz_stz]
section
variable {C : Cx} {L : Slots} {H : Items} {o : Oper} {t t' : TypeId} {x y z : Operand} {a : List UInt8} {kd kz : IntKind} {lo hi : Nat} {q1 q2 : Int}
theorem V_sliceStrL (ho : o.op = .slice t x (some y) (some z) none) (hx : ev L x = some (.string (stz a))) (hy : ev L y = some (.int kd q1)) (hz : ev L z = some (.int kz q2)) (ht : C.P.underlying t = some .string) (h1 : q1 = (lo : Int)) (h2 : q2 = (hi : Int)) (hh : lo ≤ hi ∧ hi ≤ a.length) :
    OpV C L H o (.string (stz ((a.drop lo).take (hi - lo)))) := stz_extract a lo hi ▸ V_sliceStr ho hx hy hz ht h1 h2 (by rw [stz_size]; exact hh)
theorem V_sliceStrTo (ho : o.op = .slice t x none (some z) none) (hx : ev L x = some (.string (stz a))) (hz : ev L z = some (.int kz q2)) (ht : C.P.underlying t = some .string) (h2 : q2 = (hi : Int)) (hh : hi ≤ a.length) :
    OpV C L H o (.string (stz (a.take hi))) := fun D act w st _ => by
  subst h2
  have e := stz_extract a 0 hi
  have hs := stz_size a
  rw [List.drop_zero, Nat.sub_zero] at e
  rw [← e]
  generalize stz a = b at *
  rw [← hs] at hh
  simp [execOp, ho, st.eval hx, st.eval hz, Instr.sliceAt, underlying, ht, Instr.slice, Instr.sliceBounds, Instr.sliceBound, asIntOf, hh]
theorem V_sliceStrFrom (ho : o.op = .slice t x (some y) none none) (hx : ev L x = some (.string (stz a))) (hy : ev L y = some (.int kd q1)) (ht : C.P.underlying t = some .string) (h1 : q1 = (lo : Int)) (hh : lo ≤ a.length) :
    OpV C L H o (.string (stz (a.drop lo))) := fun D act w st _ => by
  subst h1
  have e := stz_extract a lo a.length
  have hs := stz_size a
  rw [List.take_of_length_le (by rw [List.length_drop]; omega)] at e
  rw [← e, ← hs]
  generalize stz a = b at *
  rw [← hs] at hh
  simp [execOp, ho, st.eval hx, st.eval hy, Instr.sliceAt, underlying, ht, Instr.slice, Instr.sliceBounds, Instr.sliceBound, asIntOf, hh]
end
end Go.Sx
/-
  Slices of slices with a greatest capacity.
-/
namespace Go.Sx
open Go.RowKit
section
variable {C : Cx} {L : Slots} {H : Items} {o : Oper}
end
section
variable {C : Cx} {k : List Item} {L : Slots} {D : List Deferred} {H : Items} {ops : Array Oper} {i d : Nat} {o : Oper} {n : Tr} {pend : List Nat}
theorem GT_makeSliceC {t e sz by_ nn mm : Nat} {x y : Operand} {k1 k2 : IntKind} {z1 z2 : Int} {z : List Value} (ho : opAt ops i = some o) (hop : o.op = .makeSlice t x y) (hg : o.guard = none) (hd : o.dst = some d) (hN : Nat.blt d C.N = true) (hx : ev L x = some (.int k1 z1)) (hy : ev L y = some (.int k2 z2)) (ht : C.P.underlying t = some (.slice e)) (hz : zcOf C.P e = some z) (hs : szOf C.P e = some sz) (hb : byOf C.P e = some by_)
    (h12 : z1 = (mm : Int) ∧ z2 = (nn : Int) ∧ z.length = sz) (hmn : mm ≤ nn) (hn : nn ≤ 1099511627776 ∧ by_ * nn ≤ 281474976710656)
    (hp : ∀ b, GR C ops ((d, .slice (some ⟨b, 0, none⟩) mm nn) :: L) D ((b, blk ((List.replicate nn z).flatten) e) :: H) pend) (h : ∀ b, GT C ops k ((d, .slice (some ⟨b, 0, none⟩) mm nn) :: L) D ((b, blk ((List.replicate nn z).flatten) e) :: H) n) : GT C ops k L D H (.ld i pend n) := by
  refine GT_ld ho hg (by simp [Oper.isDefer, hop]) fun a w s m => ?_
  obtain ⟨v, hv, rfl⟩ := Option.map_eq_some_iff.1 hz
  obtain ⟨inf, hi, hz0⟩ := Option.bind_eq_some_iff.1 hv
  obtain ⟨inf', hi', rfl⟩ := Option.map_eq_some_iff.1 hs
  obtain ⟨inf'', hi'', rfl⟩ := Option.map_eq_some_iff.1 hb
  rw [hi] at hi' hi''; cases hi'; cases hi''
  have hsz : v.cells.toList.length = inf.size := h12.2.2
  obtain ⟨rfl, rfl, _⟩ := h12
  have hby : (inf.bytes : Int) * (nn : Int) ≤ 281474976710656 := by
    have : ((inf.bytes * nn : Nat) : Int) ≤ 281474976710656 := by omega
    rwa [Int.natCast_mul] at this
  have hrun := run_make (P := C.P) w t e inf v ht hi hz0 k1 k2 mm nn (by omega) (by omega) hby (by omega)
  simp only [Int.toNat_natCast] at hrun
  have e1 : (execOp a.eval o).run C.P w = .ok (.value (.slice (some ⟨w.heap.size, 0, none⟩) mm nn)) { w with heap := w.heap.push (.cells (madeCells v.cells (nn * inf.size)) e) } := by
    simp only [execOp, hop, s.eval hx, s.eval hy, Sem.run_bind, hrun, Result.andThen_ok]
    rfl
  rw [e1]
  have e2 : madeCells v.cells (nn * inf.size) = ((List.replicate nn v.cells.toList).flatten).toArray := made_eq nn _ _ hsz.symm
  rw [e2]
  exact ⟨_, _, by rw [hd]; exact s.put hN _, m.alloc _, hp _, h _⟩
end
end Go.Sx
/-
  Interfaces that hold a struct: making one, and calling a method of one by a bound method value.
-/
namespace Go.Sx
open Go.RowKit
section
variable {C : Cx} {L : Slots} {H : Items} {o : Oper}
theorem V_eqv {v v' : Value} (h : OpV C L H o v) (e : v = v') : OpV C L H o v' := e ▸ h
theorem V_mkIface {t : TypeId} {x : Operand} {v : Value} (ho : o.op = .makeInterface t x) (hx : ev L x = some v) (ha : aggOf C.P t = some true) : OpV C L H o (.iface t v) := fun D a w s m => by
  obtain ⟨d, hd, hb⟩ := Option.map_eq_some_iff.1 ha
  cases d <;> simp at hb
  all_goals simp [execOp, ho, s.eval hx, Instr.makeInterface, underlying, hd]
theorem V_nilCheck_iface {x : Operand} {t : TypeId} {v : Value} (ho : o.op = .nilCheck x) (hx : ev L x = some (.iface t v)) : OpV C L H o (.iface t v) := fun D a w s m => by
  simp [execOp, ho, s.eval hx]
end
def methOf (P : Program) (t : TypeId) (name : String) : Option (FuncId × Bool) :=
  match P.info? t with
  | some i => match i.methods.find? (·.name == name) with
    | some m => if m.path.isEmpty then m.func else none
    | none => none
  | none => none
theorem run_method {P : Program} {w : World} {t : TypeId} {name : String} {f : FuncId} {v : Value} (n : Nat) (h : methOf P t name = some (f, false)) (ha : aggOf P t = some true) : (method (n + 1) t v name).run P w = .ok (f, v) w := by
  obtain ⟨d, hd, hb⟩ := Option.map_eq_some_iff.1 ha
  unfold methOf at h
  cases hi : P.info? t with
  | none => rw [hi] at h; cases h
  | some i =>
    rw [hi] at h
    dsimp only at h
    cases hm : i.methods.find? (·.name == name) with
    | none => rw [hm] at h; cases h
    | some mm =>
      rw [hm] at h
      dsimp only at h
      by_cases hp : mm.path.isEmpty = true
      · rw [if_pos hp] at h
        have hp2 : mm.path.toList = [] := by simpa using hp
        cases d <;> simp at hb
        all_goals simp [method, typeInfo, hi, hm, hp2, follow, h, receiverAt, underlying, hd, Place.get]
      · rw [if_neg hp] at h; cases h
section
variable {C : Cx} {L : Slots} {D : List Deferred} {H : Items} {k : List Item} {ops : Array Oper} {i d : Nat} {o : Oper} {n : Tr} {pend : List Nat}
theorem GT_callM {v : Value} {name : String} {t : TypeId} {r : Value} {f : Operand} {args : Array Operand} {ts : Array TypeId} {fi : FuncId} {fs cs : Array Value} {vs args' : List Value}
    (ho : opAt ops i = some o) (hop : o.op = .call { callee := .value f, args := args, argTypes := ts }) (hg : o.guard = none) (hd : o.dst = some d) (hN : Nat.blt d C.N = true)
    (hf : ev L f = some (.func (.method name) fs cs)) (ha : evs L args.toList = some vs) (he : fs.toList ++ vs = .iface t r :: args') (hme : methOf C.P t name = some (fi, false)) (hag : aggOf C.P t = some true) (hb : runs C.P fi = true)
    (hc : ∀ w, SH C.w0 C.M H w → Con0 C.P fi (r :: args') w v) (hp : GR C ops ((d, v) :: L) D H pend) (h : GT C ops k ((d, v) :: L) D H n) : GT C ops k L D H (.ld i pend n) := by
  refine GT_ld ho hg (by simp [Oper.isDefer, hop]) fun a w s m => ?_
  have hrun : (execOp a.eval o).run C.P w = .ok (.enter fi (r :: args').toArray) w := by
    obtain ⟨fn, c, hfn, hbody, hname⟩ := runs_of hb
    have e0 : args.map a.eval = vs.toArray := by
      have := s.evals ha
      rw [← this]; obtain ⟨l⟩ := args; simp
    have e1 : fs ++ vs.toArray = (Value.iface t r :: args').toArray := by rw [← he]; simp
    have e2 : ((Value.iface t r :: args').toArray).extract 1 ((Value.iface t r :: args').toArray).size = args'.toArray := by simp
    have hm := fun q => run_method (P := C.P) (w := w) (v := r) q hme hag
    have hfu : ∃ q, C.P.types.size + Made.depth = q + 1 := ⟨C.P.types.size + 99, rfl⟩
    obtain ⟨q, hq⟩ := hfu
    simp [execOp, hop, resolve, s.eval hf, Deferred.ofValue, invoke, callMethod, hq, hm, callFunc, hfn, hbody, hname, e0, e1, e2]
  rw [hrun]
  exact (hc w m).mono fun v' w' ⟨hv, m'⟩ => by
    subst hv
    exact ⟨_, _, by rw [hd]; exact s.put hN _, m.trans m', hp, h⟩
end
end Go.Sx
/-
  A deferred call of a closure that recovers: begun in a plain region, carried out at the end.
-/
namespace Go.Sx
open Go.RowKit
/-! ### operations in a frame of any kind -/
section
variable {C : Cx} {L : Slots} {D : List Deferred} {H : Items} {k : List Item}
end
section
variable {P : Program} {hm : P.follows .mixedOrders = true} {f N : Nat} {w0 : World} {M : Nat → Prop} {R : Value → World → Prop} {L : Slots} {H : Items} {k : List Item} {fn : Func} {v : Value} {g : FuncId} {fs cs : Array Value}
end
/-! ### a closure that recovers -/
structure Rec (P : Program) (g : FuncId) (fn : Func) (o0 o1 o2 o3 : Oper) (i0 i1 d0 d1 d2 d3 : Nat) (x : Code) : Prop where
  f : P.funcs[g]? = some fn
  body : fn.body = some (.seq (.region i0 #[o0, o1] false) (.seq (.region i1 #[o2, o3] false) (.cond (.tmp d3) x .skip)))
  g0 : o0.guard = none
  g1 : o1.guard = none
  g2 : o2.guard = none
  g3 : o3.guard = none
  h0 : o0.op = .call { callee := .builtin .recover, args := #[], argTypes := #[] }
  h1 : o1.op = .assign (.tmp d0)
  h2 : o2.op = .move (.tmp d1)
  h3 : ∃ t ms t', o3.op = .binOp .neq t (.tmp d2) (.const .nilIface) t' ∧ P.underlying t = some (.interface ms)
  e0 : o0.dst = some d0
  e1 : o1.dst = some d1
  e2 : o2.dst = some d2
  e3 : o3.dst = some d3
  lt : d0 < fn.ntmps ∧ d1 < fn.ntmps ∧ d2 < fn.ntmps ∧ d3 < fn.ntmps
  res : fn.results = #[]
end Go.Sx
/-
  Structs of numbers and truth values, compared with themselves.
-/
namespace Go.Sx
open Go.RowKit
def primF (P : Program) (fs : Array Field) : Bool := (List.range fs.size).all fun j => match fs[j]? with
  | some f => f.name != "_" && decide (f.offset = j) && (match P.underlying f.type with | some (.int _) => true | some .bool => true | _ => false)
  | none => false
def isPrims (P : Program) (t : TypeId) (n : Nat) : Bool := match P.underlying t with
  | some (.struct fs) => decide (fs.size = n) && primF P fs && !P.stoodInHeld t && !P.eqGuardType P.depth t
  | _ => false
def primV (P : Program) (t : TypeId) (v : Value) : Prop := (∃ k k' n, P.underlying t = some (.int k') ∧ v = .int k n) ∨ (∃ b, P.underlying t = some .bool ∧ v = .bool b)
theorem equal_prim {P : Program} {w : World} {t : TypeId} {v : Value} (d : Nat) (h : primV P t v) : (Op.equalIn (d + 1) t v v).run P w = .ok true w := by
  rcases h with ⟨k, k', n, ht, rfl⟩ | ⟨b, ht, rfl⟩
  · rw [equal_int d ht]; simp
  · rw [Op.equalIn]; simp [underlying, ht]
theorem part_prim {P : Program} {w : World} {t : TypeId} {cs : Array Value} {off : Nat} {v : Value} (h : primV P t v) (hv : cs[off]? = some v) : (part t cs off).run P w = .ok v w := by
  rcases h with ⟨k, k', n, ht, rfl⟩ | ⟨b, ht, rfl⟩ <;> simp [part, isAgg, underlying, ht, hv]
theorem eqFields_self {P : Program} {w : World} {d : Nat} {cs : List Value} : ∀ (fs : List Field), (∀ f ∈ fs, f.name ≠ "_" ∧ ∃ v, cs[f.offset]? = some v ∧ primV P f.type v) →
    (Op.eqFields (d + 1) cs.toArray cs.toArray fs).run P w = .ok true w
  | [], _ => by simp [Op.eqFields]
  | f :: fs, h => by
    obtain ⟨h1, v, h2, h3⟩ := h f (List.mem_cons_self ..)
    have p0 := part_prim (P := P) (w := w) (cs := cs.toArray) h3 (by simpa using h2)
    have e0 := equal_prim (w := w) d h3
    have ih := eqFields_self (P := P) (w := w) (d := d) (cs := cs) fs fun g hg => h g (List.mem_cons_of_mem _ hg)
    rw [Op.eqFields]
    simp [h1, p0, e0, ih]
def primOk (P : Program) (fs : Array Field) (cs : List Value) : Bool := (List.range fs.size).all fun j => match fs[j]?, cs[j]? with
  | some f, some (.int _ _) => (match P.underlying f.type with | some (.int _) => true | _ => false)
  | some f, some (.bool _) => (match P.underlying f.type with | some .bool => true | _ => false)
  | _, _ => false
def primsOk (P : Program) (t : TypeId) (cs : List Value) : Bool := match P.underlying t with
  | some (.struct fs) => primOk P fs cs
  | _ => false
theorem equal_self {P : Program} {w : World} {t : TypeId} {n : Nat} {cs : List Value} (hs : isPrims P t n = true) (hc : primsOk P t cs = true) (d : Nat) :
    (Op.equalIn (d + 1 + 1) t (.agg cs.toArray) (.agg cs.toArray)).run P w = .ok true w ∧ P.eqGuardType P.depth t = false := by
  unfold isPrims at hs
  unfold primsOk at hc
  split at hs
  · rename_i fs hu
    rw [hu] at hc
    simp only [Bool.and_eq_true, Bool.not_eq_true', decide_eq_true_iff] at hs
    obtain ⟨⟨⟨q1, q2⟩, q3⟩, q4⟩ := hs
    refine ⟨?_, q4⟩
    have hff : P.fieldsOf t = fs := by unfold Program.fieldsOf; rw [hu]
    rw [run_equalIn_struct w (d + 1) t _ _ (by rw [hff]; exact hu) q3, hff]
    refine eqFields_self fs.toList fun f hf => ?_
    obtain ⟨i, hi, rfl⟩ := List.mem_iff_getElem.1 hf
    have hi' : i < fs.size := by simpa using hi
    have hfi : fs[i]? = some fs[i] := by simp [hi']
    have h3 := List.all_eq_true.1 q2 i (by rw [List.mem_range]; exact hi')
    have h4 := List.all_eq_true.1 hc i (by rw [List.mem_range]; exact hi')
    rw [hfi] at h3 h4
    simp only [Bool.and_eq_true, decide_eq_true_iff, bne_iff_ne] at h3
    have e : fs.toList[i] = fs[i] := by simp
    rw [e]
    refine ⟨h3.1.1, ?_⟩
    rw [h3.1.2]
    cases hv : cs[i]? with
    | none => rw [hv] at h4; cases h4
    | some v =>
      rw [hv] at h4
      refine ⟨v, rfl, ?_⟩
      cases v <;> simp only [Bool.false_eq_true] at h4
      · split at h4
        · rename_i hb; exact .inr ⟨_, hb, rfl⟩
        · cases h4
      · split at h4
        · rename_i k' hk; exact .inl ⟨_, k', _, hk, rfl⟩
        · cases h4
  · cases hs
section
variable {C : Cx} {L : Slots} {H : Items} {o : Oper} {t t' : TypeId} {x y : Operand} {n : Nat} {cs : List Value}
theorem V_neqSelf (ho : o.op = .binOp .neq t x y t') (hx : ev L x = some (.agg cs.toArray)) (hy : ev L y = some (.agg cs.toArray)) (hs : isPrims C.P t n = true) (hc : primsOk C.P t cs = true) : OpV C L H o (.bool false) := fun D a w st m => by
  have h1 := fun d => (equal_self (w := w) hs hc d).1
  have h2 := (equal_self (P := C.P) (w := w) hs hc 0).2
  have h3 : (Op.equal t (.agg cs.toArray) (.agg cs.toArray)).run C.P w = .ok true w := h1 _
  simp [execOp, ho, st.eval hx, st.eval hy, eqGuard, binOp, h3, h2]
end
end Go.Sx
