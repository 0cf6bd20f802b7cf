/- Texts of this proof, one behind the other: SxO, SxS, SxT, SxV, SxW, SxX, SxY. -/
import Derived.Test.YtncleikbggjmjaaGreatDoorMt12
import Derived.Lib.Builder
import Derived.Laws.Externs
/-
  What strings.Builder's copyCheck asks: pointers as they are.
-/
namespace Go.Sx
open Go.RowKit
section
variable {C : Cx} {L : Slots} {H : Items} {o : Oper} {t t' e : TypeId} {x y : Operand}
theorem equal_nilptr {P : Program} {w : World} {tp te : TypeId} (hp : P.underlying tp = some (.pointer te)) (A : Option Addr) : (Op.equal tp (.pointer A) (.pointer none)).run P w = .ok A.isNone w := by
  have h : ∀ d : Nat, (Op.equalIn (d + 1) tp (.pointer A) (.pointer none)).run P w = .ok A.isNone w := fun d => by
    cases A <;> simp [Op.equalIn, run_underlying hp]
  simp [Op.equal, Op.maxDepth, h 9999]
theorem V_eqlNilPtr {A : Option Addr} (ho : o.op = .binOp .eql t x y t') (hx : ev L x = some (.pointer A)) (hy : ev L y = some (.pointer none)) (ht : C.P.underlying t = some (.pointer e)) : OpV C L H o (.bool A.isNone) := fun D a w s _ => by
  have key := equal_nilptr (w := w) ht A
  simp [execOp, ho, s.eval hx, s.eval hy, eqGuard, binOp, key]
end
end Go.Sx
/-
  Slices of slices with a greatest capacity.
-/
namespace Go.Sx
open Go.RowKit
section
variable {C : Cx} {L : Slots} {H : Items} {o : Oper}
end
section
variable {C : Cx} {k : List Item} {L : Slots} {D : List Deferred} {H : Items} {ops : Array Oper} {i d : Nat} {o : Oper} {n : Tr} {pend : List Nat}
theorem GT_makeSliceC {t e sz by_ nn mm : Nat} {x y : Operand} {k1 k2 : IntKind} {z1 z2 : Int} {z : List Value} (ho : opAt ops i = some o) (hop : o.op = .makeSlice t x y) (hg : o.guard = none) (hd : o.dst = some d) (hN : Nat.blt d C.N = true) (hx : ev L x = some (.int k1 z1)) (hy : ev L y = some (.int k2 z2)) (ht : C.P.underlying t = some (.slice e)) (hz : zcOf C.P e = some z) (hs : szOf C.P e = some sz) (hb : byOf C.P e = some by_)
    (h12 : z1 = (mm : Int) ∧ z2 = (nn : Int) ∧ z.length = sz) (hmn : mm ≤ nn) (hn : nn ≤ 1099511627776 ∧ by_ * nn ≤ 281474976710656)
    (hp : ∀ b, GR C ops ((d, .slice (some ⟨b, 0, none⟩) mm nn) :: L) D ((b, blk ((List.replicate nn z).flatten) e) :: H) pend) (h : ∀ b, GT C ops k ((d, .slice (some ⟨b, 0, none⟩) mm nn) :: L) D ((b, blk ((List.replicate nn z).flatten) e) :: H) n) : GT C ops k L D H (.ld i pend n) := by
  refine GT_ld ho hg (by simp [Oper.isDefer, hop]) fun a w s m => ?_
  obtain ⟨v, hv, rfl⟩ := Option.map_eq_some_iff.1 hz
  obtain ⟨inf, hi, hz0⟩ := Option.bind_eq_some_iff.1 hv
  obtain ⟨inf', hi', rfl⟩ := Option.map_eq_some_iff.1 hs
  obtain ⟨inf'', hi'', rfl⟩ := Option.map_eq_some_iff.1 hb
  rw [hi] at hi' hi''; cases hi'; cases hi''
  have hsz : v.cells.toList.length = inf.size := h12.2.2
  obtain ⟨rfl, rfl, _⟩ := h12
  have hby : (inf.bytes : Int) * (nn : Int) ≤ 281474976710656 := by
    have : ((inf.bytes * nn : Nat) : Int) ≤ 281474976710656 := by omega
    rwa [Int.natCast_mul] at this
  have hrun := run_make (P := C.P) w t e inf v ht hi hz0 k1 k2 mm nn (by omega) (by omega) hby (by omega)
  simp only [Int.toNat_natCast] at hrun
  have e1 : (execOp a.eval o).run C.P w = .ok (.value (.slice (some ⟨w.heap.size, 0, none⟩) mm nn)) { w with heap := w.heap.push (.cells (madeCells v.cells (nn * inf.size)) e) } := by
    simp only [execOp, hop, s.eval hx, s.eval hy, Sem.run_bind, hrun, Result.andThen_ok]
    rfl
  rw [e1]
  have e2 : madeCells v.cells (nn * inf.size) = ((List.replicate nn v.cells.toList).flatten).toArray := made_eq nn _ _ hsz.symm
  rw [e2]
  exact ⟨_, _, by rw [hd]; exact s.put hN _, m.alloc _, hp _, h _⟩
end
end Go.Sx
/-
  Interfaces that hold a struct: making one, and calling a method of one by a bound method value.
-/
namespace Go.Sx
open Go.RowKit
section
variable {C : Cx} {L : Slots} {H : Items} {o : Oper}
theorem V_eqv {v v' : Value} (h : OpV C L H o v) (e : v = v') : OpV C L H o v' := e ▸ h
theorem V_mkIface {t : TypeId} {x : Operand} {v : Value} (ho : o.op = .makeInterface t x) (hx : ev L x = some v) (ha : aggOf C.P t = some true) : OpV C L H o (.iface t v) := fun D a w s m => by
  obtain ⟨d, hd, hb⟩ := Option.map_eq_some_iff.1 ha
  cases d <;> simp at hb
  all_goals simp [execOp, ho, s.eval hx, Instr.makeInterface, underlying, hd]
theorem V_nilCheck_iface {x : Operand} {t : TypeId} {v : Value} (ho : o.op = .nilCheck x) (hx : ev L x = some (.iface t v)) : OpV C L H o (.iface t v) := fun D a w s m => by
  simp [execOp, ho, s.eval hx]
end
def methOf (P : Program) (t : TypeId) (name : String) : Option (FuncId × Bool) :=
  match P.info? t with
  | some i => match i.methods.find? (·.name == name) with
    | some m => if m.path.isEmpty then m.func else none
    | none => none
  | none => none
theorem run_method {P : Program} {w : World} {t : TypeId} {name : String} {f : FuncId} {v : Value} (n : Nat) (h : methOf P t name = some (f, false)) (ha : aggOf P t = some true) : (method (n + 1) t v name).run P w = .ok (f, v) w := by
  obtain ⟨d, hd, hb⟩ := Option.map_eq_some_iff.1 ha
  unfold methOf at h
  cases hi : P.info? t with
  | none => rw [hi] at h; cases h
  | some i =>
    rw [hi] at h
    dsimp only at h
    cases hm : i.methods.find? (·.name == name) with
    | none => rw [hm] at h; cases h
    | some mm =>
      rw [hm] at h
      dsimp only at h
      by_cases hp : mm.path.isEmpty = true
      · rw [if_pos hp] at h
        have hp2 : mm.path.toList = [] := by simpa using hp
        cases d <;> simp at hb
        all_goals simp [method, typeInfo, hi, hm, hp2, follow, h, receiverAt, underlying, hd, Place.get]
      · rw [if_neg hp] at h; cases h
section
variable {C : Cx} {L : Slots} {D : List Deferred} {H : Items} {k : List Item} {ops : Array Oper} {i d : Nat} {o : Oper} {n : Tr} {pend : List Nat}
theorem GT_callM {v : Value} {name : String} {t : TypeId} {r : Value} {f : Operand} {args : Array Operand} {ts : Array TypeId} {fi : FuncId} {fs cs : Array Value} {vs args' : List Value}
    (ho : opAt ops i = some o) (hop : o.op = .call { callee := .value f, args := args, argTypes := ts }) (hg : o.guard = none) (hd : o.dst = some d) (hN : Nat.blt d C.N = true)
    (hf : ev L f = some (.func (.method name) fs cs)) (ha : evs L args.toList = some vs) (he : fs.toList ++ vs = .iface t r :: args') (hme : methOf C.P t name = some (fi, false)) (hag : aggOf C.P t = some true) (hb : runs C.P fi = true)
    (hc : ∀ w, SH C.w0 C.M H w → Con0 C.P fi (r :: args') w v) (hp : GR C ops ((d, v) :: L) D H pend) (h : GT C ops k ((d, v) :: L) D H n) : GT C ops k L D H (.ld i pend n) := by
  refine GT_ld ho hg (by simp [Oper.isDefer, hop]) fun a w s m => ?_
  have hrun : (execOp a.eval o).run C.P w = .ok (.enter fi (r :: args').toArray) w := by
    obtain ⟨fn, c, hfn, hbody, hname⟩ := runs_of hb
    have e0 : args.map a.eval = vs.toArray := by
      have := s.evals ha
      rw [← this]; obtain ⟨l⟩ := args; simp
    have e1 : fs ++ vs.toArray = (Value.iface t r :: args').toArray := by rw [← he]; simp
    have e2 : ((Value.iface t r :: args').toArray).extract 1 ((Value.iface t r :: args').toArray).size = args'.toArray := by simp
    have hm := fun q => run_method (P := C.P) (w := w) (v := r) q hme hag
    have hfu : ∃ q, C.P.types.size + Made.depth = q + 1 := ⟨C.P.types.size + 99, rfl⟩
    obtain ⟨q, hq⟩ := hfu
    simp [execOp, hop, resolve, s.eval hf, Deferred.ofValue, invoke, callMethod, hq, hm, callFunc, hfn, hbody, hname, e0, e1, e2]
  rw [hrun]
  exact (hc w m).mono fun v' w' ⟨hv, m'⟩ => by
    subst hv
    exact ⟨_, _, by rw [hd]; exact s.put hN _, m.trans m', hp, h⟩
end
end Go.Sx
/-
  Structs of numbers and truth values, compared with themselves.
-/
namespace Go.Sx
open Go.RowKit
section
variable {C : Cx} {L : Slots} {H : Items} {o : Oper} {t t' : TypeId} {x y : Operand} {n : Nat} {cs : List Value}
end
end Go.Sx
/-
  Maps, by what they hold: the order of their entries is left open.
-/
namespace Go.Sx
open Go.RowKit
structure KeyOk (P : Program) (kt : TypeId) {κ : Type} (ke : κ → Value) : Prop where
  check : ∀ (e : Bool) (k : κ) (w : World), (Instr.checkKey e 10000 kt (ke k)).run P w = .ok () w
  find : ∀ (k : κ) (es : List MapEntry) (w : World), (∀ (j : Nat) (e : MapEntry), es[j]? = some e → ∃ k', e.key = ke k') →
    ∃ r, (Instr.findKey kt (ke k) es).run P w = .ok r w ∧ match r with
      | some (i, v) => ∃ e, es[i]? = some e ∧ e.key = ke k ∧ e.val = v
      | none => ∀ (j : Nat) (e : MapEntry), es[j]? = some e → e.key ≠ ke k
  inj : ∀ k k', ke k = ke k' → k = k'
  bits : ∀ k, Instr.sameBits 10000 (ke k) (ke k) = true
section
variable {P : Program} {kt : TypeId}
theorem findNow_int (kd : IntKind) (z : Int) : ∀ (es : List MapEntry) (i : Nat), (∀ (j : Nat) (e : MapEntry), es[j]? = some e → ∃ k' : Int, e.key = .int kd k') →
    ∃ r, Instr.findNow (.int kd) (.int kd z) es i = some r ∧ match r with
      | some (q, v) => i ≤ q ∧ ∃ e, es[q - i]? = some e ∧ e.key = .int kd z ∧ e.val = v
      | none => ∀ (j : Nat) (e : MapEntry), es[j]? = some e → e.key ≠ .int kd z := by
  intro es
  induction es with
  | nil => intro i _; exact ⟨none, rfl, fun j e h => by simp at h⟩
  | cons x es ih =>
    intro i h
    obtain ⟨k', hk'⟩ := h 0 x rfl
    have hx := ih (i + 1) fun j e he => h (j + 1) e he
    rw [Instr.findNow, hk']
    by_cases hz : z = k'
    · subst hz
      exact ⟨some (i, x.val), by simp [Instr.sameNow], Nat.le_refl _, x, by simp, hk', rfl⟩
    · obtain ⟨r, h1, h2⟩ := hx
      have hb : (z == k') = false := by simp [hz]
      refine ⟨r, by simp [Instr.sameNow, hb, h1], ?_⟩
      cases r with
      | none =>
        rintro (_ | j) e he
        · simp at he; subst he; rw [hk']; simp; omega
        · exact h2 j e he
      | some r =>
        obtain ⟨q, v⟩ := r
        obtain ⟨h3, e, h4, h5⟩ := h2
        refine ⟨by omega, e, ?_, h5⟩
        rw [show q - i = (q - (i + 1)) + 1 by omega, List.getElem?_cons_succ]
        exact h4
theorem KeyOk.int {kd : IntKind} (h : P.underlying kt = some (.int kd)) : KeyOk P kt (fun z : Int => Value.int kd z) where
  check e k w := by
    have : ∀ d, (Instr.checkKey e (d + 1) kt (.int kd k)).run P w = .ok () w := fun d => by
      rw [Instr.checkKey]; simp [underlying, h]
    exact this _
  find k es w hes := by
    obtain ⟨r, h1, h2⟩ := findNow_int kd k es 0 hes
    refine ⟨r, by simp [Instr.findKey, underlying, h, h1], ?_⟩
    cases r with
    | none => exact h2
    | some r => obtain ⟨q, v⟩ := r; obtain ⟨_, e, h4, h5⟩ := h2; exact ⟨e, by simpa using h4, h5⟩
  inj k k' h := by simpa using h
  bits k := by simp [Instr.sameBits]
end
/-! ### what a map holds -/
def upd {κ ν : Type} [DecidableEq κ] (f : κ → Option ν) (k : κ) (v : Option ν) : κ → Option ν := fun x => if x = k then v else f x
structure EntIs {κ ν : Type} (ke : κ → Value) (ve : ν → Value) (f : κ → Option ν) (es : List MapEntry) (clock : Nat) : Prop where
  holds : ∀ (j : Nat) (e : MapEntry), es[j]? = some e → ∃ k v, e.key = ke k ∧ e.val = ve v ∧ f k = some v
  there : ∀ k v, f k = some v → ∃ (j : Nat) (e : MapEntry), es[j]? = some e ∧ e.key = ke k ∧ e.val = ve v
  keys : ∀ (i j : Nat) (e e' : MapEntry), es[i]? = some e → es[j]? = some e' → e.key = e'.key → i = j
  borns : ∀ (i j : Nat) (e e' : MapEntry), es[i]? = some e → es[j]? = some e' → e.born = e'.born → i = j
  clock : ∀ (j : Nat) (e : MapEntry), es[j]? = some e → e.born < clock
def MapIs {κ ν : Type} (ke : κ → Value) (ve : ν → Value) (f : κ → Option ν) (o : Obj) : Prop := ∃ (es : List MapEntry) (clock : Nat), o = .map es.toArray clock ∧ EntIs ke ve f es clock
section
variable {P : Program} {κ ν : Type} {ke : κ → Value} {ve : ν → Value} {f : κ → Option ν} {o : Obj} {es : List MapEntry} {clock : Nat} {kt : TypeId}
theorem EntIs.nil : EntIs ke ve (fun _ => none) [] clock := ⟨fun j e h => (by simp at h), fun k v h => (by cases h), fun i j e e' h => (by simp at h), fun i j e e' h => (by simp at h), fun j e h => (by simp at h)⟩
theorem MapIs.nil : MapIs ke ve (fun _ => none) (.map #[] 0) := ⟨[], 0, rfl, EntIs.nil⟩
theorem EntIs.find (h : EntIs ke ve f es clock) (hk : KeyOk P kt ke) (k : κ) (w : World) : ∃ r, (Instr.findKey kt (ke k) es).run P w = .ok r w ∧ match r with
      | some (i, v) => ∃ e u, es[i]? = some e ∧ e.key = ke k ∧ e.val = ve u ∧ v = ve u ∧ f k = some u
      | none => f k = none ∧ ∀ (j : Nat) (e : MapEntry), es[j]? = some e → e.key ≠ ke k := by
  obtain ⟨r, h1, h2⟩ := hk.find k es w fun j e he => by obtain ⟨k', _, h', _⟩ := h.holds j e he; exact ⟨k', h'⟩
  refine ⟨r, h1, ?_⟩
  cases r with
  | none =>
    refine ⟨?_, h2⟩
    cases hf : f k with
    | none => rfl
    | some v => obtain ⟨j, e, h3, h4, _⟩ := h.there k v hf; exact absurd h4 (h2 j e h3)
  | some r =>
    obtain ⟨i, v⟩ := r
    obtain ⟨e, h3, h4, rfl⟩ := h2
    obtain ⟨k', u, h5, h6, h7⟩ := h.holds i e h3
    obtain rfl := hk.inj _ _ (h4.symm.trans h5)
    exact ⟨e, u, h3, h4, h6, h6, h7⟩
theorem run_stays {w : World} {k : κ} (hk : KeyOk P kt ke) : (Instr.keyThatStays (ke k) (ke k)).run P w = .ok (ke k) w := by
  simp [Instr.keyThatStays, hk.bits k]
theorem run_getMapE {w : World} {r : Nat} {E : Array MapEntry} {q : Nat} (h : w.heap[r]? = some (.map E q)) : (getObj r).run P w = .ok (.map E q) w := by
  simp [getObj, Sem.run, h]
theorem run_setMapE {w : World} {r : Nat} {o : Obj} {E : Array MapEntry} {q : Nat} (h : w.heap[r]? = some (.map E q)) : (setObj r o).run P w = .ok () { w with heap := w.heap.setIfInBounds r o } := by
  simp [setObj, Sem.run, h]
theorem run_lookupM {w : World} {t e r : Nat} {k : κ} {z : ν} {c : Bool} (ho : MapIs ke ve f o) (hr : w.heap[r]? = some o) (hk : KeyOk P kt ke) (htm : P.underlying t = some (.map kt e)) (hz : (P.info? e).bind (·.zero) = some (ve z)) :
    (Instr.lookup t (.map (some r)) (ke k) c).run P w = .ok (if c then .tuple #[ve ((f k).getD z), .bool (f k).isSome] else ve ((f k).getD z)) w := by
  obtain ⟨es, clock, rfl, hE⟩ := ho
  obtain ⟨inf, hi, hz0⟩ := Option.bind_eq_some_iff.1 hz
  obtain ⟨q, h1, h2⟩ := hE.find hk k w
  have hc := fun e => hk.check e k w
  have hg := run_getMapE (P := P) hr
  have hzv : (zeroValue e).run P w = .ok (ve z) w := by simp [zeroValue, typeInfo, hi, hz0]
  cases q with
  | none =>
    obtain ⟨h3, _⟩ := h2
    rw [h3]
    simp [Instr.lookup, underlying, htm, hg, hc, h1, hzv]
  | some q =>
    obtain ⟨i, v⟩ := q
    obtain ⟨_, u, _, _, _, rfl, h3⟩ := h2
    rw [h3]
    simp [Instr.lookup, underlying, htm, hg, hc, h1]
end
section
variable {P : Program} {κ ν : Type} [DecidableEq κ] {ke : κ → Value} {ve : ν → Value} {f : κ → Option ν} {o : Obj} {es : List MapEntry} {clock : Nat} {kt : TypeId}
theorem EntIs.push (h : EntIs ke ve f es clock) {k : κ} (hno : ∀ (j : Nat) (e : MapEntry), es[j]? = some e → e.key ≠ ke k) (v : ν) :
    EntIs ke ve (upd f k (some v)) (es ++ [{ key := ke k, val := ve v, born := clock }]) (clock + 1) := by
  have hg : ∀ (j : Nat) (e : MapEntry), (es ++ [({ key := ke k, val := ve v, born := clock } : MapEntry)])[j]? = some e → es[j]? = some e ∨ (j = es.length ∧ e = { key := ke k, val := ve v, born := clock }) := fun j e he => by
    rcases Nat.lt_or_ge j es.length with q | q
    · exact .inl (by rwa [List.getElem?_append_left q] at he)
    · rw [List.getElem?_append_right q] at he
      rcases (show j = es.length ∨ es.length < j by omega) with rfl | q'
      · simp at he; exact .inr ⟨rfl, he.symm⟩
      · rw [List.getElem?_eq_none (by simp; omega)] at he; cases he
  refine ⟨fun j e he => ?_, fun k' v' hv => ?_, fun i j e e' hi hj hkk => ?_, fun i j e e' hi hj hb => ?_, fun j e he => ?_⟩
  · rcases hg j e he with q | ⟨_, rfl⟩
    · obtain ⟨k', v', h1, h2, h3⟩ := h.holds j e q
      refine ⟨k', v', h1, h2, ?_⟩
      have : k' ≠ k := by rintro rfl; exact hno j e q h1
      simp [upd, this, h3]
    · exact ⟨k, v, rfl, rfl, by simp [upd]⟩
  · unfold upd at hv
    by_cases e : k' = k
    · subst e; simp at hv; subst hv
      exact ⟨es.length, { key := ke k', val := ve v, born := clock }, by simp, rfl, rfl⟩
    · rw [if_neg e] at hv
      obtain ⟨j, e', h1, h2⟩ := h.there k' v' hv
      refine ⟨j, e', ?_, h2⟩
      rw [List.getElem?_append_left (List.getElem?_eq_some_iff.1 h1).1]; exact h1
  · rcases hg i e hi with q | ⟨rfl, rfl⟩ <;> rcases hg j e' hj with q' | ⟨rfl, rfl⟩
    · exact h.keys i j e e' q q' hkk
    · exact absurd hkk (hno i e q)
    · exact absurd hkk.symm (hno j e' q')
    · rfl
  · rcases hg i e hi with q | ⟨rfl, rfl⟩ <;> rcases hg j e' hj with q' | ⟨rfl, rfl⟩
    · exact h.borns i j e e' q q' hb
    · have := h.clock i e q; dsimp only at hb; omega
    · have := h.clock j e' q'; dsimp only at hb; omega
    · rfl
  · rcases hg j e he with q | ⟨_, rfl⟩
    · have := h.clock j e q; omega
    · exact Nat.lt_succ_self _
theorem EntIs.modify (h : EntIs ke ve f es clock) (hk : KeyOk P kt ke) {k : κ} {i : Nat} {e0 : MapEntry} (hi : es[i]? = some e0) (h0 : e0.key = ke k) (v : ν) :
    EntIs ke ve (upd f k (some v)) (es.modify i fun e => { e with key := ke k, val := ve v }) clock := by
  have hg : ∀ (j : Nat) (e : MapEntry), (es.modify i fun e => { e with key := ke k, val := ve v })[j]? = some e → ∃ e', es[j]? = some e' ∧ e.key = e'.key ∧ e.born = e'.born ∧ (j = i → e.val = ve v) ∧ (j ≠ i → e = e') := fun j e he => by
    rw [List.getElem?_modify] at he
    by_cases q : i = j
    · subst q
      rw [hi] at he
      simp at he
      subst he
      exact ⟨e0, hi, h0.symm, rfl, fun _ => rfl, fun q => absurd rfl q⟩
    · obtain ⟨e1, h1, h2⟩ := Option.map_eq_some_iff.1 he
      rw [if_neg q] at h2
      subst h2
      exact ⟨e1, h1, rfl, rfl, fun q' => absurd q'.symm q, fun _ => rfl⟩
  refine ⟨fun j e he => ?_, fun k' v' hv => ?_, fun i' j e e' hi' hj hkk => ?_, fun i' j e e' hi' hj hb => ?_, fun j e he => ?_⟩
  · obtain ⟨e', h1, h2, _, h3, h4⟩ := hg j e he
    by_cases q : j = i
    · subst q
      rw [hi] at h1; cases h1
      exact ⟨k, v, h2.trans h0, h3 rfl, by simp [upd]⟩
    · obtain rfl := h4 q
      obtain ⟨k', v', h5, h6, h7⟩ := h.holds j e h1
      refine ⟨k', v', h5, h6, ?_⟩
      have : k' ≠ k := by rintro rfl; exact q (h.keys j i e e0 h1 hi (h5.trans h0.symm))
      simp [upd, this, h7]
  · unfold upd at hv
    by_cases e : k' = k
    · subst e; simp at hv; subst hv
      exact ⟨i, { e0 with key := ke k', val := ve v }, by rw [List.getElem?_modify, hi]; simp, rfl, rfl⟩
    · rw [if_neg e] at hv
      obtain ⟨j, e', h1, h2, h3⟩ := h.there k' v' hv
      have : i ≠ j := by rintro rfl; rw [hi] at h1; cases h1; exact e (hk.inj _ _ (h2.symm.trans h0))
      exact ⟨j, e', by rw [List.getElem?_modify, h1]; exact congrArg some (if_neg this), h2, h3⟩
  · obtain ⟨e1, h1, h2, _⟩ := hg i' e hi'
    obtain ⟨e2, h3, h4, _⟩ := hg j e' hj
    exact h.keys i' j e1 e2 h1 h3 (h2.symm.trans (hkk.trans h4))
  · obtain ⟨e1, h1, _, h2, _⟩ := hg i' e hi'
    obtain ⟨e2, h3, _, h4, _⟩ := hg j e' hj
    exact h.borns i' j e1 e2 h1 h3 (h2.symm.trans (hb.trans h4))
  · obtain ⟨e1, h1, _, h2, _⟩ := hg j e he
    rw [h2]; exact h.clock j e1 h1
theorem EntIs.erase (h : EntIs ke ve f es clock) (hk : KeyOk P kt ke) {k : κ} {i : Nat} {e0 : MapEntry} (hi : es[i]? = some e0) (h0 : e0.key = ke k) :
    EntIs ke ve (upd f k none) (es.eraseIdx i) clock := by
  have hg : ∀ (j : Nat), (es.eraseIdx i)[j]? = es[if j < i then j else j + 1]? := fun j => by rw [List.getElem?_eraseIdx]; split <;> rfl
  refine ⟨fun j e he => ?_, fun k' v' hv => ?_, fun i' j e e' hi' hj hkk => ?_, fun i' j e e' hi' hj hb => ?_, fun j e he => ?_⟩
  · rw [hg] at he
    obtain ⟨k', v', h5, h6, h7⟩ := h.holds _ e he
    refine ⟨k', v', h5, h6, ?_⟩
    have : k' ≠ k := by
      rintro rfl
      have := h.keys _ i e e0 he hi (h5.trans h0.symm)
      split at this <;> omega
    simp [upd, this, h7]
  · unfold upd at hv
    by_cases e : k' = k
    · rw [if_pos e] at hv; cases hv
    · rw [if_neg e] at hv
      obtain ⟨j, e', h1, h2, h3⟩ := h.there k' v' hv
      have : i ≠ j := by rintro rfl; rw [hi] at h1; cases h1; exact e (hk.inj _ _ (h2.symm.trans h0))
      refine ⟨if j < i then j else j - 1, e', ?_, h2, h3⟩
      rw [hg, ← h1]
      congr 1
      by_cases q : j < i
      · rw [if_pos q, if_pos q]
      · rw [if_neg q, if_neg (by omega)]; omega
  · rw [hg] at hi' hj
    have := h.keys _ _ e e' hi' hj hkk
    split at this <;> split at this <;> omega
  · rw [hg] at hi' hj
    have := h.borns _ _ e e' hi' hj hb
    split at this <;> split at this <;> omega
  · rw [hg] at he
    exact h.clock _ e he
/-! ### the operations -/
variable {w : World} {t e r : Nat} {k : κ} {v : ν}
theorem run_mapUpdateM (ho : MapIs ke ve f o) (hr : w.heap[r]? = some o) (hk : KeyOk P kt ke) (htm : P.underlying t = some (.map kt e)) :
    ∃ o', MapIs ke ve (upd f k (some v)) o' ∧ (Instr.mapUpdate t (.map (some r)) (ke k) (ve v)).run P w = .ok () { w with heap := w.heap.setIfInBounds r o' } := by
  obtain ⟨es, clock, rfl, hE⟩ := ho
  obtain ⟨q, h1, h2⟩ := hE.find hk k w
  have hc := hk.check false k w
  have hg := run_getMapE (P := P) hr
  have hst := run_stays (w := w) (k := k) hk
  cases q with
  | none =>
    refine ⟨_, ⟨_, _, rfl, hE.push h2.2 v⟩, ?_⟩
    have hs := run_setMapE (P := P) (o := .map (es ++ [({ key := ke k, val := ve v, born := clock } : MapEntry)]).toArray (clock + 1)) hr
    simp [Instr.mapUpdate, underlying, htm, hg, hc, h1]
    simpa using hs
  | some q =>
    obtain ⟨i, u⟩ := q
    obtain ⟨e0, _, h3, h4, _⟩ := h2
    refine ⟨_, ⟨_, _, rfl, hE.modify hk h3 h4 v⟩, ?_⟩
    have hs := run_setMapE (P := P) (o := .map (es.modify i fun e => { e with key := ke k, val := ve v }).toArray clock) hr
    have e1 : (es.toArray.modify i fun (e : MapEntry) => { e with key := ke k, val := ve v }) = (es.modify i fun e => { e with key := ke k, val := ve v }).toArray := by
      apply Array.ext'; rw [Array.toList_modify]
    simp [Instr.mapUpdate, underlying, htm, hg, hc, h1, h3, h4, hst, e1, hs]
theorem run_deleteM (ho : MapIs ke ve f o) (hr : w.heap[r]? = some o) (hk : KeyOk P kt ke) {ty tk : TypeId} (htm : P.underlying t = some (.map kt e)) :
    ∃ o', MapIs ke ve (upd f k none) o' ∧ (Builtin.delete_ #[t, tk] ty #[.map (some r), ke k]).run P w = .ok (.tuple #[]) { w with heap := w.heap.setIfInBounds r o' } := by
  obtain ⟨es, clock, rfl, hE⟩ := ho
  obtain ⟨q, h1, h2⟩ := hE.find hk k w
  have hc := fun b => hk.check b k w
  have hg := run_getMapE (P := P) hr
  cases q with
  | none =>
    have hs := run_setMapE (P := P) (o := .map es.toArray clock) hr
    refine ⟨_, ⟨es, clock, rfl, ?_⟩, ?_⟩
    · have : upd f k none = f := by funext x; unfold upd; split; (rename_i q; subst q; exact h2.1.symm); rfl
      rw [this]; exact hE
    · simp [Builtin.delete_, underlying, htm, hg, hc, h1, hs]
  | some q =>
    obtain ⟨i, u⟩ := q
    obtain ⟨e0, _, h3, h4, _⟩ := h2
    refine ⟨_, ⟨_, _, rfl, hE.erase hk h3 h4⟩, ?_⟩
    have hs := run_setMapE (P := P) (o := .map (es.eraseIdx i).toArray clock) hr
    have hlt : i < es.length := (List.getElem?_eq_some_iff.1 h3).1
    have e1 : es.toArray.eraseIdxIfInBounds i = (es.eraseIdx i).toArray := by
      simp
    simp [Builtin.delete_, underlying, htm, hg, hc, h1, hs, e1]
end
section
variable {C : Cx} {k : List Item} {L : Slots} {D : List Deferred} {H H' : Items} {ops : Array Oper} {i d : Nat} {o : Oper} {n : Tr} {pend : List Nat}
variable {κ ν : Type} {ke : κ → Value} {ve : ν → Value} {f : κ → Option ν} {ob : Obj} {kt : TypeId}
theorem GT_makeMapM (ke : κ → Value) (ve : ν → Value) {t : TypeId} (ho : opAt ops i = some o) (hop : o.op = .makeMap t none) (hg : o.guard = none) (hd : o.dst = some d) (hN : Nat.blt d C.N = true)
    (hp : ∀ b ob, GR C ops ((d, .map (some b)) :: L) D ((b, ob) :: H) pend) (h : ∀ b ob, MapIs ke ve (fun _ => none) ob → GT C ops k ((d, .map (some b)) :: L) D ((b, ob) :: H) n) : GT C ops k L D H (.ld i pend n) := by
  refine GT_ld ho hg (by simp [Oper.isDefer, hop]) fun a w s m => ?_
  have : (execOp a.eval o).run C.P w = .ok (.value (.map (some w.heap.size))) { w with heap := w.heap.push (.map #[] 0) } := by
    simp [execOp, hop, run_makeMap']
  rw [this]
  exact ⟨_, _, by rw [hd]; exact s.put hN _, m.alloc (.map #[] 0), hp _ _, h _ _ MapIs.nil⟩
theorem V_lookupOkM {t e r : Nat} {x y : Operand} {q : κ} {z : ν} {u : Value} (hm : MapIs ke ve f ob) [hf : HFind r H ob] (hk : KeyOk C.P kt ke) (ho : o.op = .lookup t x y true) (hx : ev L x = some (.map (some r))) (hy : ev L y = some u) (hu : u = ke q) (htm : C.P.underlying t = some (.map kt e)) (hz : (C.P.info? e).bind (·.zero) = some (ve z)) : OpV C L H o (.tuple #[ve ((f q).getD z), .bool (f q).isSome]) := fun D a w s m => by
  subst hu
  have hr : w.heap[r]? = some ob := (m.item _ hf.mem).2
  simp [execOp, ho, s.eval hx, s.eval hy, run_lookupM hm hr hk htm hz]
theorem GT_mapUpdateM [DecidableEq κ] {t e r : Nat} {x y u : Operand} {q : κ} {v : ν} {yv uv : Value} (hm : MapIs ke ve f ob) [ht : HTake r H ob H'] (hk : KeyOk C.P kt ke) (ho : opAt ops i = some o) (hop : o.op = .mapUpdate t x y u) (hg : o.guard = none) (hd : o.dst = none)
    (hx : ev L x = some (.map (some r))) (hy : ev L y = some yv) (hu : ev L u = some uv) (hyq : yv = ke q) (huv : uv = ve v) (htm : C.P.underlying t = some (.map kt e))
    (hp : ∀ ob', GR C ops L D ((r, ob') :: H') pend) (h : ∀ ob', MapIs ke ve (upd f q (some v)) ob' → GT C ops k L D ((r, ob') :: H') n) : GT C ops k L D H (.ld i pend n) := by
  subst hyq huv
  refine GT_ld ho hg (by simp [Oper.isDefer, hop]) fun a w s m => ?_
  have m' := m.perm ht.perm
  have hr : w.heap[r]? = some ob := (m'.item _ (List.mem_cons_self ..)).2
  obtain ⟨ob', h1, h2⟩ := run_mapUpdateM (v := v) (k := q) hm hr hk htm
  have : (execOp a.eval o).run C.P w = .ok .skip { w with heap := w.heap.setIfInBounds r ob' } := by
    simp [execOp, hop, s.eval hx, s.eval hy, s.eval hu, h2]
  rw [this]
  exact ⟨L, _, by rw [hd]; exact s, m'.set _, hp _, h _ h1⟩
end
end Go.Sx
/-
  The bits of two numbers that are not below 0.
-/
namespace Go.Sx
open Go.RowKit
section
variable {C : Cx} {L : Slots} {H : Items} {o : Oper} {t t' : TypeId} {x y : Operand} {p q : Nat} {a c z : Int}
end
end Go.Sx
/-
  Maps that are cloned.
-/
namespace Go.Sx
open Go.RowKit
section
variable {P : Program}
end
section
variable {C : Cx} {L : Slots} {H : Items} {o : Oper} {t t' kt e : TypeId} {x y : Operand} {r : Nat}
end
section
variable {C : Cx} {k : List Item} {L : Slots} {D : List Deferred} {H H' : Items} {ops : Array Oper} {i d : Nat} {o : Oper} {n : Tr} {pend : List Nat}
variable {κ ν : Type} {ke : κ → Value} {ve : ν → Value} {f : κ → Option ν} {ob : Obj}
end
end Go.Sx
