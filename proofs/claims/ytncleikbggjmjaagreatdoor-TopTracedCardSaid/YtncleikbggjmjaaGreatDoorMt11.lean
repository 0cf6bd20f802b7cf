/- Texts of this proof, one behind the other: SxH, SxI, SxJ, SxK. -/
import Derived.Test.YtncleikbggjmjaaGreatDoorMt10
import Derived.Lib.SlicesS
import Derived.Laws.StructEq
/-
  Maps from strings to numbers; what is asked of strings.
-/
namespace Go.Sx
open Go.RowKit
/-! ### strings -/
section
variable {C : Cx} {L : Slots} {H : Items} {o : Oper} {t t' : TypeId} {x y : Operand} {a b : ByteArray}
theorem toList_beq (a b : ByteArray) : (a.toList == b.toList) = decide (a = b) := by
  by_cases h : a = b
  · subst h; simp
  · rw [decide_eq_false h]; exact (Go.Lib.bytes_beq_false_iff a b).2 h
theorem V_eqlStr (ho : o.op = .binOp .eql t x y t') (hx : ev L x = some (.string a)) (hy : ev L y = some (.string b)) : OpV C L H o (.bool (decide (a = b))) := fun D act w st m => by
  have e := toList_beq a b
  simp [execOp, ho, st.eval hx, st.eval hy, eqGuard, binOp, Op.stringOp, e]
theorem V_neqStr (ho : o.op = .binOp .neq t x y t') (hx : ev L x = some (.string a)) (hy : ev L y = some (.string b)) : OpV C L H o (.bool (decide (¬ a = b))) := fun D act w st m => by
  have e := toList_beq a b
  simp [execOp, ho, st.eval hx, st.eval hy, eqGuard, binOp, Op.stringOp, e]
end
/-! ### maps -/
abbrev KV := ByteArray × Int
instance : Inhabited KV := ⟨(⟨#[]⟩, 0)⟩
def ment1 (x : KV × Nat) : MapEntry := { key := .string x.1.1, val := I x.1.2, born := x.2 }
def mobj (ks : List KV) : Obj := .map ((ks.zipIdx.map ment1).toArray) ks.length
def midx (ks : List KV) (k : ByteArray) : Option Nat := ks.findIdx? fun e => decide (e.1 = k)
theorem midx_cons (x : KV) (ks : List KV) (k : ByteArray) : midx (x :: ks) k = if x.1 = k then some 0 else (midx ks k).map (· + 1) := by
  unfold midx; rw [List.findIdx?_cons]
  by_cases h : x.1 = k
  · simp [h]
  · simp [h]
theorem midx_some {ks : List KV} {k : ByteArray} {i : Nat} (h : midx ks k = some i) : i < ks.length ∧ (ks.getD i default).1 = k := by
  unfold midx at h
  rw [List.findIdx?_eq_some_iff_getElem] at h
  obtain ⟨hi, hk, _⟩ := h
  exact ⟨hi, by simpa [List.getD, hi] using hk⟩
theorem midx_none {ks : List KV} {k : ByteArray} : midx ks k = none ↔ k ∉ ks.map (·.1) := by
  unfold midx
  rw [List.findIdx?_eq_none_iff]
  simp only [List.mem_map, decide_eq_false_iff_not]
  constructor
  · rintro h ⟨x, hx, e⟩; exact h x hx e
  · intro h x hx e; exact h ⟨x, hx, e⟩
theorem findNow_m (k : ByteArray) : ∀ (ks : List KV) (j n : Nat), Instr.findNow .string (.string k) ((ks.zipIdx n).map ment1) j = some ((midx ks k).map fun i => (j + i, I (ks.getD i default).2)) := by
  intro ks
  induction ks with
  | nil => intro j n; rfl
  | cons x ks ih =>
    intro j n
    rw [List.zipIdx_cons, List.map_cons, Instr.findNow, midx_cons]
    have e : (k == x.1) = decide (x.1 = k) := by
      rw [Go.beq_toListBytes, toList_beq]; by_cases h : k = x.1 <;> simp [h, eq_comm]
    simp only [ment1, Instr.sameNow, e]
    by_cases h : x.1 = k
    · simp [h]
    · simp only [h, decide_false, if_false, ih]
      cases midx ks k with
      | none => rfl
      | some i => simp; omega
theorem ents_get {ks : List KV} {i : Nat} (h : i < ks.length) : ((ks.zipIdx.map ment1).toArray)[i]? = some { key := .string (ks.getD i default).1, val := I (ks.getD i default).2, born := i } := by
  simp [h, ment1, List.getD]
theorem ents_push (ks : List KV) (k : ByteArray) (z : Int) : ((ks.zipIdx.map ment1).toArray).push { key := .string k, val := I z, born := ks.length } = ((ks ++ [(k, z)]).zipIdx.map ment1).toArray := by
  simp [List.zipIdx_append, ment1]
section
variable {C : Cx} {k : List Item} {L : Slots} {D : List Deferred} {H H' : Items} {ops : Array Oper} {i d : Nat} {o : Oper} {n : Tr} {pend : List Nat}
theorem run_makeMap' {P : Program} (t : TypeId) (w : World) : (Instr.makeMap t none).run P w = .ok (.map (some w.heap.size)) { w with heap := w.heap.push (.map #[] 0) } := rfl
theorem GT_makeMap {t : TypeId} (ho : opAt ops i = some o) (hop : o.op = .makeMap t none) (hg : o.guard = none) (hd : o.dst = some d) (hN : Nat.blt d C.N = true)
    (hp : ∀ b, GR C ops ((d, .map (some b)) :: L) D ((b, mobj []) :: H) pend) (h : ∀ b, GT C ops k ((d, .map (some b)) :: L) D ((b, mobj []) :: H) n) : GT C ops k L D H (.ld i pend n) := by
  refine GT_ld ho hg (by simp [Oper.isDefer, hop]) fun a w s m => ?_
  have : (execOp a.eval o).run C.P w = .ok (.value (.map (some w.heap.size))) { w with heap := w.heap.push (.map #[] 0) } := by
    simp [execOp, hop, run_makeMap']
  rw [this]
  exact ⟨_, _, by rw [hd]; exact s.put hN _, m.alloc (.map #[] 0), hp _, h _⟩
theorem run_checkKeyS {P : Program} {w : World} {e : Bool} {kt : TypeId} {key : ByteArray} (hk : P.underlying kt = some .string) : (Instr.checkKey e 10000 kt (.string key)).run P w = .ok () w := by
  have : ∀ d, (Instr.checkKey e (d + 1) kt (.string key)).run P w = .ok () w := fun d => by
    rw [Instr.checkKey]; simp [underlying, hk]
  exact this _
theorem run_findKeyS {P : Program} {w : World} {kt : TypeId} {key : ByteArray} {ks : List KV} (hk : P.underlying kt = some .string) : (Instr.findKey kt (.string key) (ks.zipIdx.map ment1)).run P w = .ok ((midx ks key).map fun i => (i, I (ks.getD i default).2)) w := by
  have hf := findNow_m key ks 0 0
  simp only [Nat.zero_add] at hf
  simp [Instr.findKey, underlying, hk, hf]
theorem run_getMap {P : Program} {w : World} {r : Nat} {ks : List KV} (h : w.heap[r]? = some (mobj ks)) : (getObj r).run P w = .ok (mobj ks) w := by
  simp [getObj, Sem.run, h, mobj]
theorem run_setObj' {P : Program} {w : World} {r : Nat} {o : Obj} {ks : List KV} (h : w.heap[r]? = some (mobj ks)) : (setObj r o).run P w = .ok () { w with heap := w.heap.setIfInBounds r o } := by
  simp [setObj, Sem.run, h, mobj]
theorem run_keyStays {P : Program} {w : World} {key : ByteArray} : (Instr.keyThatStays (.string key) (.string key)).run P w = .ok (.string key) w := by
  have hb : (key == key) = true := by rw [Go.beq_toListBytes]; simp
  simp [Instr.keyThatStays, Instr.sameBits, hb]
def mget (ks : List KV) (k : ByteArray) : Int := match midx ks k with
  | some i => (ks.getD i default).2
  | none => 0
def mput (ks : List KV) (k : ByteArray) (z : Int) : List KV := match midx ks k with
  | some i => ks.set i (k, z)
  | none => ks ++ [(k, z)]
theorem ents_put {ks : List KV} {i : Nat} {k : ByteArray} {z : Int} (h : i < ks.length) : ((ks.zipIdx.map ment1).toArray).modify i (fun e => { e with key := .string k, val := I z }) = ((ks.set i (k, z)).zipIdx.map ment1).toArray := by
  apply Array.ext'
  rw [Array.toList_modify]
  apply List.ext_getElem? 
  intro j
  rw [List.getElem?_modify]
  simp only [List.getElem?_map, List.getElem?_zipIdx, List.getElem?_set]
  by_cases e : i = j
  · subst e; simp [h, ment1]
  · simp [e]
theorem run_lookup {P : Program} {w : World} {t e kt r : Nat} {ks : List KV} {key : ByteArray} {c : Bool} (hr : w.heap[r]? = some (mobj ks)) (htm : P.underlying t = some (.map kt e)) (hk : P.underlying kt = some .string) (hz : (P.info? e).bind (·.zero) = some (I 0)) :
    (Instr.lookup t (.map (some r)) (.string key) c).run P w = .ok (if c then .tuple #[I (mget ks key), .bool (midx ks key).isSome] else I (mget ks key)) w := by
  obtain ⟨inf, hi, hz0⟩ := Option.bind_eq_some_iff.1 hz
  have hf := run_findKeyS (w := w) (key := key) (ks := ks) hk
  have hc := fun e => run_checkKeyS (w := w) (e := e) (key := key) hk
  have hg := run_getMap (P := P) hr
  have hzv : (zeroValue e).run P w = .ok (I 0) w := by simp [zeroValue, typeInfo, hi, hz0]
  have hm : mobj ks = .map (ks.zipIdx.map ment1).toArray ks.length := rfl
  have hl : (ks.zipIdx.map ment1) = ((ks.zipIdx.map ment1).toArray).toList := rfl
  rw [hl] at hf
  rw [hm] at hg
  clear hm hl hr
  generalize (ks.zipIdx.map ment1).toArray = E at *
  unfold mget
  cases hq : midx ks key with
  | none =>
    rw [hq] at hf
    simp [Instr.lookup, underlying, htm, hg, hc, hf, hzv]
  | some q =>
    rw [hq] at hf
    simp [Instr.lookup, underlying, htm, hg, hc, hf]
theorem run_mapUpdate {P : Program} {w : World} {t e kt r : Nat} {ks : List KV} {key : ByteArray} {z : Int} (hr : w.heap[r]? = some (mobj ks)) (htm : P.underlying t = some (.map kt e)) (hk : P.underlying kt = some .string) :
    (Instr.mapUpdate t (.map (some r)) (.string key) (I z)).run P w = .ok () { w with heap := w.heap.setIfInBounds r (mobj (mput ks key z)) } := by
  have hf := run_findKeyS (w := w) (key := key) (ks := ks) hk
  have hc := run_checkKeyS (w := w) (e := false) (key := key) hk
  have hg := run_getMap (P := P) hr
  have hst := run_keyStays (P := P) (w := w) (key := key)
  have hpu := ents_push ks key z
  have hsa := fun i h => ents_put (ks := ks) (i := i) (k := key) (z := z) h
  have hge := fun i h => ents_get (ks := ks) (i := i) h
  have hm : mobj ks = .map (ks.zipIdx.map ment1).toArray ks.length := rfl
  have hl : (ks.zipIdx.map ment1) = ((ks.zipIdx.map ment1).toArray).toList := rfl
  rw [hl] at hf
  rw [hm] at hg
  unfold mput
  cases hq : midx ks key with
  | none =>
    rw [hq] at hf
    have hs := run_setObj' (P := P) (o := mobj (ks ++ [(key, z)])) hr
    have e1 : Obj.map (((ks.zipIdx.map ment1).toArray).push { key := .string key, val := I z, born := ks.length }) (ks.length + 1) = mobj (ks ++ [(key, z)]) := by
      rw [hpu]; simp [mobj]
    generalize (ks.zipIdx.map ment1).toArray = E at *
    simp [Instr.mapUpdate, underlying, htm, hg, hc, hf, e1, hs]
  | some q =>
    rw [hq] at hf
    obtain ⟨hql, hqk⟩ := midx_some hq
    have hs := run_setObj' (P := P) (o := mobj (ks.set q (key, z))) hr
    have h1 := hsa q hql
    have h2 := hge q hql
    rw [hqk] at h2
    have e1 : Obj.map (((ks.zipIdx.map ment1).toArray).modify q fun e => { e with key := .string key, val := I z }) ks.length = mobj (ks.set q (key, z)) := by
      rw [h1]; simp [mobj]
    dsimp only
    clear hm hl hpu hsa hge hr
    generalize (ks.zipIdx.map ment1).toArray = E at *
    simp [Instr.mapUpdate, underlying, htm, hg, hc, hf, h2, hst, e1, hs]
theorem V_lookup {t e kt r : Nat} {x y : Operand} {ks : List KV} {key : ByteArray} [hf : HFind r H (mobj ks)] (ho : o.op = .lookup t x y false) (hx : ev L x = some (.map (some r))) (hy : ev L y = some (.string key)) (htm : C.P.underlying t = some (.map kt e)) (hk : C.P.underlying kt = some .string) (hz : (C.P.info? e).bind (·.zero) = some (I 0)) : OpV C L H o (I (mget ks key)) := fun D a w s m => by
  have hr : w.heap[r]? = some (mobj ks) := (m.item _ hf.mem).2
  simp [execOp, ho, s.eval hx, s.eval hy, run_lookup hr htm hk hz]
theorem GT_mapUpdate {t e kt r : Nat} {x y u : Operand} {ks : List KV} {key : ByteArray} {z : Int} [ht : HTake r H (mobj ks) H'] (ho : opAt ops i = some o) (hop : o.op = .mapUpdate t x y u) (hg : o.guard = none) (hd : o.dst = none)
    (hx : ev L x = some (.map (some r))) (hy : ev L y = some (.string key)) (hu : ev L u = some (I z)) (htm : C.P.underlying t = some (.map kt e)) (hk : C.P.underlying kt = some .string)
    (hp : GR C ops L D ((r, mobj (mput ks key z)) :: H') pend) (h : GT C ops k L D ((r, mobj (mput ks key z)) :: H') n) : GT C ops k L D H (.ld i pend n) := by
  refine GT_ld ho hg (by simp [Oper.isDefer, hop]) fun a w s m => ?_
  have m' := m.perm ht.perm
  have hr : w.heap[r]? = some (mobj ks) := (m'.item _ (List.mem_cons_self ..)).2
  have : (execOp a.eval o).run C.P w = .ok .skip { w with heap := w.heap.setIfInBounds r (mobj (mput ks key z)) } := by
    simp [execOp, hop, s.eval hx, s.eval hy, s.eval hu, run_mapUpdate hr htm hk]
  rw [this]
  exact ⟨L, _, by rw [hd]; exact s, m'.set _, hp, h⟩
theorem V_lenMap {t kt e r : Nat} {x : Operand} {ks : List KV} [hf : HFind r H (mobj ks)] (ho : o.op = .call { callee := .builtin .len, args := #[x], argTypes := #[t] }) (hx : ev L x = some (.map (some r))) (ht : C.P.underlying t = some (.map kt e)) : OpV C L H o (I ks.length) := fun D a w s m => by
  have hr : w.heap[r]? = some (mobj ks) := (m.item _ hf.mem).2
  have hg := run_getMap (P := C.P) hr
  have hz : (mobj ks) = .map (ks.zipIdx.map ment1).toArray ks.length := rfl
  rw [hz] at hg
  have hl : ((ks.zipIdx.map ment1).toArray).size = ks.length := by simp
  generalize (ks.zipIdx.map ment1).toArray = E at *
  simp [execOp, ho, resolve, invoke, builtin, s.eval hx, Builtin.len_, underlying, ht, hg, goInt, hl]
end
end Go.Sx
/-
  Structs and arrays of numbers, compared.
-/
namespace Go.Sx
open Go.RowKit
def intF (P : Program) (fs : Array Field) : Bool := (List.range fs.size).all fun j => match fs[j]? with
  | some f => f.name != "_" && decide (f.offset = j) && (match P.underlying f.type with | some (.int _) => true | _ => false)
  | none => false
def isStruct (P : Program) (t : TypeId) (n : Nat) : Bool := match P.underlying t with
  | some (.struct fs) => decide (fs.size = n) && intF P fs && !P.stoodInHeld t && !P.eqGuardType P.depth t
  | _ => false
theorem eqFields_ints {P : Program} {w : World} {d : Nat} {k : IntKind} {zs zs' : List Int} (hl : zs.length = zs'.length) : ∀ (fs : List Field) (j : Nat), (∀ i f, fs[i]? = some f → f.name ≠ "_" ∧ f.offset = j + i ∧ ∃ k', P.underlying f.type = some (.int k')) → j + fs.length = zs.length →
    (Op.eqFields (d + 1) (zs.map (fun z => Value.int k z)).toArray (zs'.map (fun z => Value.int k z)).toArray fs).run P w = .ok (decide (zs.drop j = zs'.drop j)) w := by
  intro fs
  induction fs with
  | nil =>
    intro j _ hj
    simp only [List.length_nil, Nat.add_zero] at hj
    rw [List.drop_of_length_le (by omega), List.drop_of_length_le (by omega)]
    simp [Op.eqFields]
  | cons f fs ih =>
    intro j hf hj
    simp only [List.length_cons] at hj
    obtain ⟨h1, h2, k', h3⟩ := hf 0 f rfl
    have hj1 : j < zs.length := by omega
    have hj2 : j < zs'.length := by omega
    have p0 : ∀ (l : List Int) (h : j < l.length), (part f.type (l.map (fun z => Value.int k z)).toArray f.offset).run P w = .ok (.int k l[j]) w := fun l h => run_part h3 (by rw [h2]; simp [h])
    have e0 := fun x y => equal_int (w := w) (k := k) (a := x) (b := y) d h3
    have hi := ih (j + 1) (fun i g hg => by
      have := hf (i + 1) g hg
      exact ⟨this.1, by omega, this.2.2⟩) (by omega)
    have ed : (zs.drop j = zs'.drop j) ↔ (zs[j] = zs'[j] ∧ zs.drop (j + 1) = zs'.drop (j + 1)) := by
      rw [List.drop_eq_getElem_cons hj1, List.drop_eq_getElem_cons hj2, List.cons.injEq]
    rw [Op.eqFields]
    by_cases he : zs[j] = zs'[j]
    · simp [h1, p0 zs hj1, p0 zs' hj2, e0, he, hi, ed]
    · simp [h1, p0 zs hj1, p0 zs' hj2, e0, he, ed]
theorem equal_ints {P : Program} {w : World} {t : TypeId} {n : Nat} {k : IntKind} {zs zs' : List Int} (hs : isStruct P t n = true) (h1 : zs.length = n) (h2 : zs'.length = n) (d : Nat) :
    (Op.equalIn (d + 1 + 1) t (.agg (zs.map (fun z => Value.int k z)).toArray) (.agg (zs'.map (fun z => Value.int k z)).toArray)).run P w = .ok (decide (zs = zs')) w ∧ P.eqGuardType P.depth t = false := by
  unfold isStruct at hs
  split at hs
  · rename_i fs hu
    simp only [Bool.and_eq_true, Bool.not_eq_true', decide_eq_true_iff] at hs
    obtain ⟨⟨⟨q1, q2⟩, q3⟩, q4⟩ := hs
    refine ⟨?_, q4⟩
    have hff : P.fieldsOf t = fs := by unfold Program.fieldsOf; rw [hu]
    rw [run_equalIn_struct w (d + 1) t _ _ (by rw [hff]; exact hu) q3, hff]
    have := eqFields_ints (P := P) (w := w) (d := d) (k := k) (zs := zs) (zs' := zs') (by omega) fs.toList 0 (fun i f hf => by
      have hi : fs[i]? = some f := by simpa using hf
      have h3 := List.all_eq_true.1 q2 i (by rw [List.mem_range]; exact (Array.getElem?_eq_some_iff.1 hi).1)
      rw [hi] at h3
      simp only [Bool.and_eq_true, decide_eq_true_iff, bne_iff_ne] at h3
      refine ⟨h3.1.1, by omega, ?_⟩
      have h4 := h3.2
      split at h4
      · rename_i k' hk; exact ⟨k', hk⟩
      · cases h4) (by simp; omega)
    simpa using this
  · cases hs
section
variable {C : Cx} {L : Slots} {H : Items} {o : Oper} {t t' e : TypeId} {x y : Operand} {n : Nat} {k k0 : IntKind} {zs zs' : List Int} {a b c f : Int}
theorem V_eqlInts (ho : o.op = .binOp .eql t x y t') (hx : ev L x = some (.agg (zs.map (fun z => Value.int k z)).toArray)) (hy : ev L y = some (.agg (zs'.map (fun z => Value.int k z)).toArray)) (hs : isStruct C.P t n = true) (h1 : zs.length = n) (h2 : zs'.length = n) : OpV C L H o (.bool (decide (zs = zs'))) := fun D act w st m => by
  obtain ⟨h, hg⟩ := equal_ints (w := w) (k := k) hs h1 h2 9998
  have h' : (Op.equalIn Op.maxDepth t (.agg (zs.map (fun z => Value.int k z)).toArray) (.agg (zs'.map (fun z => Value.int k z)).toArray)).run C.P w = .ok (decide (zs = zs')) w := h
  simp [execOp, ho, st.eval hx, st.eval hy, eqGuard, binOp, Op.equal, hg, h']
theorem V_neqInts (ho : o.op = .binOp .neq t x y t') (hx : ev L x = some (.agg (zs.map (fun z => Value.int k z)).toArray)) (hy : ev L y = some (.agg (zs'.map (fun z => Value.int k z)).toArray)) (hs : isStruct C.P t n = true) (h1 : zs.length = n) (h2 : zs'.length = n) : OpV C L H o (.bool (decide (¬ zs = zs'))) := fun D act w st m => by
  obtain ⟨h, hg⟩ := equal_ints (w := w) (k := k) hs h1 h2 9998
  have h' : (Op.equalIn Op.maxDepth t (.agg (zs.map (fun z => Value.int k z)).toArray) (.agg (zs'.map (fun z => Value.int k z)).toArray)).run C.P w = .ok (decide (zs = zs')) w := h
  simp [execOp, ho, st.eval hx, st.eval hy, eqGuard, binOp, Op.equal, hg, h']
end
end Go.Sx
/-
  Slices that are made, guarded.
-/
namespace Go.Sx
open Go.RowKit
section
variable {C : Cx} {L : Slots} {D : List Deferred} {H : Items} {k : List Item} {ops : Array Oper} {i d : Nat} {o : Oper} {n : Tr} {pend : List Nat}
end
end Go.Sx
/-
  Zeros that are appended: append(s, make([]T, n)...).
-/
namespace Go.Sx
open Go.RowKit
section
variable {P : Program} (w : World)
end
section
variable {α : Type} {sz e by_ : Nat} {enc : α → List Value} {l m : List α} {v v' : Value} {I H H1 : Items}
end
section
variable {C : Cx} {L : Slots} {D : List Deferred} {H : Items} {k : List Item} {ops : Array Oper} {i d : Nat} {o : Oper} {n : Tr} {pend : List Nat}
variable {α : Type} {sz e by_ : Nat} {enc : α → List Value} {l : List α} {v : Value} {I H1 : Items}
end
end Go.Sx
