/-
  One law for each operation, over the states of Sx3.
-/
import Derived.Test.YtdcjgjopmicidaaDoorSx3
namespace Go.Sx
open Go.RowKit

/-! ### what the program's tables say -/
def szOf (P : Program) (t : TypeId) : Option Nat := (P.info? t).map (·.size)
def byOf (P : Program) (t : TypeId) : Option Nat := (P.info? t).map (·.bytes)
def zcOf (P : Program) (t : TypeId) : Option (List Value) := ((P.info? t).bind (·.zero)).map (·.cells.toList)
def aggOf (P : Program) (t : TypeId) : Option Bool := (P.underlying t).map fun | .struct _ => true | .array _ _ => true | _ => false
def foOf (P : Program) (s f : Nat) : Option Nat :=
  match P.underlying s with
  | some (.struct fs) => match fs[f]? with
    | some fl => match szOf P fl.type with
      | some (_ + 1) => some fl.offset
      | _ => none
    | none => none
  | _ => none
/-- the places of a struct's fields, or of an array's elements: where each begins, and how many cells it has -/
def plOf (P : Program) (t : TypeId) : Option (List (Nat × Nat)) :=
  match P.underlying t with
  | some (.struct fs) => fs.toList.mapM fun f => (szOf P f.type).map fun n => (f.offset, n)
  | some (.array len e) => (szOf P e).map fun n => (List.range len).map fun i => (i * n, n)
  | _ => none

abbrev blk (l : List Value) (t : TypeId) : Obj := .cells l.toArray t (0, 0)
abbrev ptr (b o : Nat) : Value := .pointer (some ⟨b, o, none⟩)
abbrev I (n : Int) : Value := .int .i64 n

theorem add_lit (b q m : Nat) : (⟨b, q, none⟩ : Addr).add m = ⟨b, q + m, none⟩ := by
  unfold Addr.add; split
  · rename_i h; subst h; rfl
  · rfl
theorem add_add' (a : Addr) (i j : Nat) : (a.add i).add j = a.add (i + j) := by
  unfold Addr.add
  by_cases hi : i = 0 <;> by_cases hj : j = 0 <;> simp [hi, hj, Nat.add_assoc]
theorem add_zero' (a : Addr) : a.add 0 = a := by simp [Addr.add]
theorem block_add (a : Addr) (n : Nat) : (a.add n).block = a.block := by unfold Addr.add; split <;> rfl

/-! ### memory as it is known -/
def CellAt (C : Cx) (H : Items) (a : Addr) (v : Value) : Prop := ∀ w, SH C.w0 C.M H w → w.cell? a = some v
theorem CellAt.item {C : Cx} {H : Items} {b o : Nat} {l : List Value} {t : TypeId} {fr : Nat × Nat} {v : Value} [h : HFind b H (.cells l.toArray t fr)] (hv : l[o]? = some v) : CellAt C H ⟨b, o, none⟩ v := by
  intro w m
  have := (m.item _ h.mem).2
  simp [World.cell?, this, hv]
theorem CellAt.old {C : Cx} {H : Items} {a : Addr} {v : Value} (h : C.w0.cell? a = some v) (hM : ¬ C.M a.block) : CellAt C H a v := fun _ m => m.cellOld h hM

def CellsAt (C : Cx) (H : Items) (a : Addr) (vs : List Value) : Prop := ∀ i v, vs[i]? = some v → CellAt C H (a.add i) v
theorem CellsAt.item {C : Cx} {H : Items} {b o : Nat} {l vs : List Value} {t : TypeId} {fr : Nat × Nat} [h : HFind b H (.cells l.toArray t fr)] (hv : (l.drop o).take vs.length = vs) : CellsAt C H ⟨b, o, none⟩ vs := by
  intro i v hi
  rw [add_lit]
  rw [← hv, List.getElem?_take] at hi
  split at hi
  · rw [List.getElem?_drop] at hi
    exact CellAt.item hi
  · cases hi

theorem run_loadCellsFrom {P : Program} {w : World} {a : Addr} : ∀ (n i : Nat) (acc : Array Value) (vs : List Value), vs.length = n → (∀ j v, vs[j]? = some v → w.cell? (a.add (i + j)) = some v) →
    (loadCellsFrom a i n acc).run P w = .ok (acc ++ vs.toArray) w
  | 0, i, acc, vs, hn, h => by
    have := List.eq_nil_of_length_eq_zero hn
    subst this
    simp [loadCellsFrom]
  | n + 1, i, acc, [], hn, h => by simp at hn
  | n + 1, i, acc, v :: vs, hn, h => by
    have h0 := h 0 v rfl
    simp only [Nat.add_zero] at h0
    have := run_loadCellsFrom (P := P) (w := w) (a := a) n (i + 1) (acc.push v) vs (by simpa using hn) (fun j u hj => by
      have := h (j + 1) u (by simpa using hj)
      rwa [show i + (j + 1) = i + 1 + j by omega] at this)
    simp [loadCellsFrom, h0, this]

theorem run_loadVar_agg {P : Program} {w : World} {a : Addr} {t n : Nat} {vs : List Value} (ha : aggOf P t = some true) (hs : szOf P t = some n) (hn : vs.length = n) (h : ∀ j v, vs[j]? = some v → w.cell? (a.add j) = some v) :
    (loadVar t a).run P w = .ok (.agg vs.toArray) w := by
  obtain ⟨i, hi, rfl⟩ := Option.map_eq_some_iff.1 hs
  obtain ⟨u, hu, hb⟩ := Option.map_eq_some_iff.1 ha
  have hag : (isAgg t).run P w = .ok true w := by
    simp [isAgg, underlying, hu]
    cases u <;> simp at hb <;> rfl
  have hl := run_loadCellsFrom (P := P) (w := w) (a := a) i.size 0 #[] vs hn (by simpa using h)
  simp [loadVar, hag, sizeOf, typeInfo, hi, loadCells, hl]

theorem run_loadVar_one {P : Program} {w : World} {a : Addr} {t : Nat} {v : Value} (ha : aggOf P t = some false) (h : w.cell? a = some v) : (loadVar t a).run P w = .ok v w := by
  obtain ⟨u, hu, hb⟩ := Option.map_eq_some_iff.1 ha
  have hag : (isAgg t).run P w = .ok false w := by
    simp [isAgg, underlying, hu]
    cases u <;> simp at hb <;> rfl
  simp [loadVar, hag, h]

section values
variable {C : Cx} {L : Slots} {H : Items} {o : Oper}

theorem V_move {x : Operand} {v : Value} (ho : o.op = .move x) (hx : ev L x = some v) : OpV C L H o v := fun D a w s m => by
  simp [execOp, ho, s.eval hx]
theorem V_assign {x : Operand} {v : Value} (ho : o.op = .assign x) (hx : ev L x = some v) : OpV C L H o v := fun D a w s m => by
  simp [execOp, ho, s.eval hx]
theorem V_pick_t {c x y : Operand} {v : Value} (ho : o.op = .pick c x y) (hc : ev L c = some (.bool true)) (hx : ev L x = some v) : OpV C L H o v := fun D a w s m => by
  simp [execOp, ho, s.eval hc, asBool, s.eval hx]
theorem V_pick_f {c x y : Operand} {v : Value} (ho : o.op = .pick c x y) (hc : ev L c = some (.bool false)) (hx : ev L y = some v) : OpV C L H o v := fun D a w s m => by
  simp [execOp, ho, s.eval hc, asBool, s.eval hx]
theorem V_nilCheck {x : Operand} {a : Addr} (ho : o.op = .nilCheck x) (hx : ev L x = some (.pointer (some a))) : OpV C L H o (.pointer (some a)) := fun D a w s m => by
  simp [execOp, ho, s.eval hx]
theorem V_nilCheck_func {x : Operand} {f : FuncId} {fs cs : Array Value} (ho : o.op = .nilCheck x) (hx : ev L x = some (.func (.func f) fs cs)) : OpV C L H o (.func (.func f) fs cs) := fun D a w s m => by
  simp [execOp, ho, s.eval hx]
theorem V_nilCheck_yield {x : Operand} {f : Nat} {fs cs : Array Value} (ho : o.op = .nilCheck x) (hx : ev L x = some (.func (.yield f) fs cs)) : OpV C L H o (.func (.yield f) fs cs) := fun D a w s m => by
  simp [execOp, ho, s.eval hx]

theorem run_field {P : Program} {w : World} {s f off : Nat} {a : Addr} (hf : foOf P s f = some off) : (Instr.fieldAt s (.pointer (some a)) f).run P w = .ok (.pointer (some (a.add off))) w := by
  unfold foOf at hf
  split at hf
  · rename_i fs hu
    split at hf
    · rename_i fl hfl
      split at hf
      · rename_i n hn
        obtain ⟨i, hi, hsz⟩ := Option.map_eq_some_iff.1 hn
        cases hf
        simp [Instr.fieldAt, underlying, hu, hfl, Instr.sureAddr, fieldPlace, sizeOf, typeInfo, hi, hsz]
      · cases hf
    · cases hf
  · cases hf
theorem V_field {x : Operand} {s f off b q : Nat} (ho : o.op = .fieldAddr s x f) (hx : ev L x = some (ptr b q)) (hf : foOf C.P s f = some off) : OpV C L H o (ptr b (q + off)) := fun D a w s m => by
  simp [execOp, ho, s.eval hx, run_field hf, add_lit]
theorem V_fieldA {x : Operand} {s f off i : Nat} {a : Addr} (ho : o.op = .fieldAddr s x f) (hx : ev L x = some (.pointer (some (a.add i)))) (hf : foOf C.P s f = some off) : OpV C L H o (.pointer (some (a.add (i + off)))) := fun D a w s m => by
  simp [execOp, ho, s.eval hx, run_field hf, add_add']

theorem V_load {x : Operand} {t : TypeId} {ad : Addr} {v : Value} (ho : o.op = .load t x) (hx : ev L x = some (.pointer (some ad))) (ha : aggOf C.P t = some false) (hc : CellAt C H ad v) : OpV C L H o v := fun D a w s m => by
  simp [execOp, ho, s.eval hx, Instr.loadAt, Instr.sureAddr, run_loadVar_one ha (hc w m)]
theorem V_loadN {x : Operand} {t : TypeId} {ad : Addr} {n : Nat} {vs : List Value} (ho : o.op = .load t x) (hx : ev L x = some (.pointer (some ad))) (ha : aggOf C.P t = some true) (hs : szOf C.P t = some n) (hn : vs.length = n)
    (hc : CellsAt C H ad vs) : OpV C L H o (.agg vs.toArray) := fun D a w s m => by
  simp [execOp, ho, s.eval hx, Instr.loadAt, Instr.sureAddr, run_loadVar_agg ha hs hn (fun j v hj => hc j v hj w m)]

theorem V_extract {x : Operand} {i : Nat} {vs : Array Value} {v : Value} (ho : o.op = .extract x i) (hx : ev L x = some (.tuple vs)) (hv : vs[i]? = some v) : OpV C L H o v := fun D a w s m => by
  simp [execOp, ho, s.eval hx, Instr.extract, hv]
theorem V_makeFunc {fn : Fn} {fs cs : Array Operand} {us vs : List Value} (ho : o.op = .makeFunc fn fs cs) (hf : evs L fs.toList = some us) (hc : evs L cs.toList = some vs) : OpV C L H o (.func fn us.toArray vs.toArray) := fun D a w s m => by
  have e1 := s.evals hf
  have e2 := s.evals hc
  obtain ⟨fs⟩ := fs
  obtain ⟨cs⟩ := cs
  simp at e1 e2
  simp [execOp, ho, Instr.makeFunc, e1, e2]

/-! numbers -/
theorem V_add {x y : Operand} {t t' : TypeId} {k : IntKind} {a b z : Int} (ho : o.op = .binOp .add t x y t') (hx : ev L x = some (.int k a)) (hy : ev L y = some (.int k b)) (hw : k.wrap (a + b) = z) : OpV C L H o (.int k z) := fun D a w s m => by
  simp [execOp, ho, s.eval hx, s.eval hy, eqGuard, binOp, Op.intArith, hw]
theorem V_sub {x y : Operand} {t t' : TypeId} {k : IntKind} {a b z : Int} (ho : o.op = .binOp .sub t x y t') (hx : ev L x = some (.int k a)) (hy : ev L y = some (.int k b)) (hw : k.wrap (a - b) = z) : OpV C L H o (.int k z) := fun D a w s m => by
  simp [execOp, ho, s.eval hx, s.eval hy, eqGuard, binOp, Op.intArith, hw]
theorem V_mul {x y : Operand} {t t' : TypeId} {k : IntKind} {a b z : Int} (ho : o.op = .binOp .mul t x y t') (hx : ev L x = some (.int k a)) (hy : ev L y = some (.int k b)) (hw : k.wrap (a * b) = z) : OpV C L H o (.int k z) := fun D a w s m => by
  simp [execOp, ho, s.eval hx, s.eval hy, eqGuard, binOp, Op.intArith, hw]
theorem V_quo {x y : Operand} {t t' : TypeId} {k : IntKind} {a b z : Int} (ho : o.op = .binOp .quo t x y t') (hx : ev L x = some (.int k a)) (hy : ev L y = some (.int k b)) (h0 : b ≠ 0) (hw : k.wrap (a.tdiv b) = z) : OpV C L H o (.int k z) := fun D a w s m => by
  simp [execOp, ho, s.eval hx, s.eval hy, eqGuard, binOp, Op.intDiv, h0, hw]
theorem V_rem {x y : Operand} {t t' : TypeId} {k : IntKind} {a b : Int} (ho : o.op = .binOp .rem t x y t') (hx : ev L x = some (.int k a)) (hy : ev L y = some (.int k b)) (h0 : b ≠ 0) : OpV C L H o (.int k (a.tmod b)) := fun D a w s m => by
  simp [execOp, ho, s.eval hx, s.eval hy, eqGuard, binOp, Op.intDiv, h0]
theorem V_lss {x y : Operand} {t t' : TypeId} {k : IntKind} {a b : Int} (ho : o.op = .binOp .lss t x y t') (hx : ev L x = some (.int k a)) (hy : ev L y = some (.int k b)) : OpV C L H o (.bool (decide (a < b))) := fun D a w s m => by
  simp [execOp, ho, s.eval hx, s.eval hy, eqGuard, binOp, Op.intCmp]
theorem V_leq {x y : Operand} {t t' : TypeId} {k : IntKind} {a b : Int} (ho : o.op = .binOp .leq t x y t') (hx : ev L x = some (.int k a)) (hy : ev L y = some (.int k b)) : OpV C L H o (.bool (decide (a ≤ b))) := fun D a w s m => by
  simp [execOp, ho, s.eval hx, s.eval hy, eqGuard, binOp, Op.intCmp]
theorem V_gtr {x y : Operand} {t t' : TypeId} {k : IntKind} {a b : Int} (ho : o.op = .binOp .gtr t x y t') (hx : ev L x = some (.int k a)) (hy : ev L y = some (.int k b)) : OpV C L H o (.bool (decide (b < a))) := fun D a w s m => by
  simp [execOp, ho, s.eval hx, s.eval hy, eqGuard, binOp, Op.intCmp]
theorem V_geq {x y : Operand} {t t' : TypeId} {k : IntKind} {a b : Int} (ho : o.op = .binOp .geq t x y t') (hx : ev L x = some (.int k a)) (hy : ev L y = some (.int k b)) : OpV C L H o (.bool (decide (b ≤ a))) := fun D a w s m => by
  simp [execOp, ho, s.eval hx, s.eval hy, eqGuard, binOp, Op.intCmp]
theorem V_eql {x y : Operand} {t t' : TypeId} {k : IntKind} {a b : Int} (ho : o.op = .binOp .eql t x y t') (hx : ev L x = some (.int k a)) (hy : ev L y = some (.int k b)) : OpV C L H o (.bool (decide (a = b))) := fun D a w s m => by
  simp [execOp, ho, s.eval hx, s.eval hy, eqGuard, binOp, Op.intCmp]; rfl
theorem V_neq {x y : Operand} {t t' : TypeId} {k : IntKind} {a b : Int} (ho : o.op = .binOp .neq t x y t') (hx : ev L x = some (.int k a)) (hy : ev L y = some (.int k b)) : OpV C L H o (.bool (decide (¬ a = b))) := fun D a w s m => by
  simp [execOp, ho, s.eval hx, s.eval hy, eqGuard, binOp, Op.intCmp, bne]; rfl
theorem V_neg {x : Operand} {t : TypeId} {k : IntKind} {a z : Int} (ho : o.op = .unOp .neg t x) (hx : ev L x = some (.int k a)) (hw : k.wrap (0 - a) = z) : OpV C L H o (.int k z) := fun D a w s m => by
  simp [execOp, ho, s.eval hx, Op.unary, Op.intArith]
  simpa using hw
theorem V_not {x : Operand} {t : TypeId} {p : Prop} [Decidable p] (ho : o.op = .unOp .not t x) (hx : ev L x = some (.bool (decide p))) : OpV C L H o (.bool (decide (¬ p))) := fun D a w s m => by
  simp [execOp, ho, s.eval hx, Op.unary]
theorem V_notB {x : Operand} {t : TypeId} {b : Bool} (ho : o.op = .unOp .not t x) (hx : ev L x = some (.bool b)) : OpV C L H o (.bool (!b)) := fun D a w s m => by
  simp [execOp, ho, s.eval hx, Op.unary]
theorem V_convII {x : Operand} {t t' : TypeId} {k k' : IntKind} {a z : Int} (ho : o.op = .convert t t' x) (hx : ev L x = some (.int k a)) (ht : (C.P.underlying t).isSome = true) (ht' : C.P.underlying t' = some (.int k')) (hw : k'.wrap a = z) : OpV C L H o (.int k' z) := fun D a w s m => by
  obtain ⟨u, hu⟩ := Option.isSome_iff_exists.1 ht
  simp [execOp, ho, s.eval hx, convert, underlying, hu, ht', Conv.intToInt, hw]

theorem wrap_i64 {x : Int} (h : -9223372036854775808 ≤ x ∧ x ≤ 9223372036854775807) : IntKind.i64.wrap x = x := by
  simp [IntKind.wrap, IntKind.bits, IntKind.signed]
  omega
theorem wrap_u8 {x : Int} (h : 0 ≤ x ∧ x ≤ 255) : IntKind.u8.wrap x = x := by
  simp [IntKind.wrap, IntKind.bits, IntKind.signed]
  omega
theorem wrap_u16 {x : Int} (h : 0 ≤ x ∧ x ≤ 65535) : IntKind.u16.wrap x = x := by
  simp [IntKind.wrap, IntKind.bits, IntKind.signed]
  omega
theorem wrap_u32 {x : Int} (h : 0 ≤ x ∧ x ≤ 4294967295) : IntKind.u32.wrap x = x := by
  simp [IntKind.wrap, IntKind.bits, IntKind.signed]
  omega
theorem wrap_u64 {x : Int} (h : 0 ≤ x ∧ x ≤ 18446744073709551615) : IntKind.u64.wrap x = x := by
  simp [IntKind.wrap, IntKind.bits, IntKind.signed]
  omega
theorem wrap_i32 {x : Int} (h : -2147483648 ≤ x ∧ x ≤ 2147483647) : IntKind.i32.wrap x = x := by
  simp [IntKind.wrap, IntKind.bits, IntKind.signed]
  omega

/-! builtins that look -/
theorem V_len {x : Operand} {t e : TypeId} {A : Option Addr} {n c : Nat} (ho : o.op = .call { callee := .builtin .len, args := #[x], argTypes := #[t] }) (ht : C.P.underlying t = some (.slice e)) (hx : ev L x = some (.slice A n c)) : OpV C L H o (I n) := fun D a w s m => by
  simp [execOp, ho, resolve, invoke, builtin, s.eval hx, Builtin.len_, underlying, ht, goInt]
theorem V_len_str {x : Operand} {t : TypeId} {b : ByteArray} (ho : o.op = .call { callee := .builtin .len, args := #[x], argTypes := #[t] }) (ht : C.P.underlying t = some .string) (hx : ev L x = some (.string b)) : OpV C L H o (I b.size) := fun D a w s m => by
  simp [execOp, ho, resolve, invoke, builtin, s.eval hx, Builtin.len_, underlying, ht, goInt]
theorem V_min {x y : Operand} {ts : Array TypeId} {k : IntKind} {a b : Int} (ho : o.op = .call { callee := .builtin .min, args := #[x, y], argTypes := ts }) (hx : ev L x = some (.int k a)) (hy : ev L y = some (.int k b)) : OpV C L H o (.int k (min a b)) := fun D _ w s m => by
  have : (if b < a then b else a) = min a b := by split <;> omega
  simp [execOp, ho, resolve, invoke, builtin, s.eval hx, s.eval hy, Builtin.min_, Builtin.min2, this]
theorem V_max {x y : Operand} {ts : Array TypeId} {k : IntKind} {a b : Int} (ho : o.op = .call { callee := .builtin .max, args := #[x, y], argTypes := ts }) (hx : ev L x = some (.int k a)) (hy : ev L y = some (.int k b)) : OpV C L H o (.int k (max a b)) := fun D _ w s m => by
  have : (if a < b then b else a) = max a b := by split <;> omega
  simp [execOp, ho, resolve, invoke, builtin, s.eval hx, s.eval hy, Builtin.max_, Builtin.max2, this]

/-! a slice's elements -/
def ad (A : Option Addr) : Addr := A.getD ⟨0, 0, none⟩
theorem V_index {x y : Operand} {t e sz n c k : Nat} {A : Option Addr} {kd : IntKind} {z : Int} (ho : o.op = .indexAddr t x y) (hx : ev L x = some (.slice A n c)) (hy : ev L y = some (.int kd z)) (ht : C.P.underlying t = some (.slice e)) (hs : szOf C.P e = some sz)
    (hz : z = (k : Int)) (hk : k < n) (hA : A.isSome = true) : OpV C L H o (.pointer (some ((ad A).add (k * sz)))) := fun D a w s m => by
  obtain ⟨i, hi, rfl⟩ := Option.map_eq_some_iff.1 hs
  obtain ⟨b, rfl⟩ := Option.isSome_iff_exists.1 hA
  subst hz
  simp [execOp, ho, s.eval hx, s.eval hy, Instr.indexAt, asIntOf, underlying, ht, sizeOf, typeInfo, hi, hk, ad]
theorem V_indexB {x y : Operand} {t e sz n c k b q : Nat} {kd : IntKind} {z : Int} (ho : o.op = .indexAddr t x y) (hx : ev L x = some (.slice (some ⟨b, q, none⟩) n c)) (hy : ev L y = some (.int kd z)) (ht : C.P.underlying t = some (.slice e)) (hs : szOf C.P e = some sz)
    (hz : z = (k : Int)) (hk : k < n) : OpV C L H o (ptr b (q + k * sz)) := fun D a w s m => by
  obtain ⟨i, hi, rfl⟩ := Option.map_eq_some_iff.1 hs
  subst hz
  simp [execOp, ho, s.eval hx, s.eval hy, Instr.indexAt, asIntOf, underlying, ht, sizeOf, typeInfo, hi, hk, add_lit]
/-- s[:hi] -/
theorem V_sliceTo {x y : Operand} {t e n c : Nat} {A : Option Addr} {kd : IntKind} {h : Nat} (ho : o.op = .slice t x none (some y) none) (hx : ev L x = some (.slice A n c)) (hy : ev L y = some (.int kd (h : Int))) (ht : C.P.underlying t = some (.slice e))
    (hs : (szOf C.P e).isSome = true) (hh : h ≤ c) : OpV C L H o (.slice A h c) := fun D a w s m => by
  obtain ⟨z, hz⟩ := Option.isSome_iff_exists.1 hs
  obtain ⟨i, hi, _⟩ := Option.map_eq_some_iff.1 hz
  have e1 : ¬ c = 0 → Option.map (fun x => x.add 0) A = A := fun _ => by cases A <;> simp [add_zero']
  simp [execOp, ho, s.eval hx, s.eval hy, Instr.sliceAt, underlying, ht, Instr.slice, Instr.sliceBounds, Instr.sliceBound, asIntOf, hh, sizeOf, typeInfo, hi]
  exact e1
end values

/-! ### what acts -/
section acts
variable {C : Cx} {L : Slots} {D : List Deferred} {H : Items} {k : List Item} {ops : Array Oper} {i d : Nat} {o : Oper} {n : Tr} {pend : List Nat}

theorem GT_alloc {e : TypeId} {z : List Value} (ho : opAt ops i = some o) (hop : o.op = .alloc e) (hg : o.guard = none) (hd : o.dst = some d) (hN : Nat.blt d C.N = true) (hz : zcOf C.P e = some z)
    (hp : ∀ b, GR C ops ((d, ptr b 0) :: L) D ((b, blk z e) :: H) pend) (h : ∀ b, GT C ops k ((d, ptr b 0) :: L) D ((b, blk z e) :: H) n) : GT C ops k L D H (.ld i pend n) := by
  refine GT_ld ho hg (by simp [Oper.isDefer, hop]) fun a w s m => ?_
  obtain ⟨v, hv, rfl⟩ := Option.map_eq_some_iff.1 hz
  obtain ⟨inf, hi, hz0⟩ := Option.bind_eq_some_iff.1 hv
  have : (execOp a.eval o).run C.P w = .ok (.value (ptr w.heap.size 0)) { w with heap := w.heap.push (.cells v.cells e) } := by
    simp [execOp, hop, Instr.alloc, zeroValue, typeInfo, hi, hz0, newVar, newRow]
  rw [this]
  exact ⟨_, _, by rw [hd]; exact s.put hN _, by simpa using m.alloc (.cells v.cells e), hp _, h _⟩

theorem GT_box {e : TypeId} {x : Operand} {v : Value} {z : List Value} (ho : opAt ops i = some o) (hop : o.op = .box e x) (hg : o.guard = none) (hd : o.dst = some d) (hN : Nat.blt d C.N = true) (hx : ev L x = some v) (hz : v.cells.toList = z)
    (hp : ∀ b, GR C ops ((d, ptr b 0) :: L) D ((b, blk z e) :: H) pend) (h : ∀ b, GT C ops k ((d, ptr b 0) :: L) D ((b, blk z e) :: H) n) : GT C ops k L D H (.ld i pend n) := by
  refine GT_ld ho hg (by simp [Oper.isDefer, hop]) fun a w s m => ?_
  have : (execOp a.eval o).run C.P w = .ok (.value (ptr w.heap.size 0)) { w with heap := w.heap.push (.cells v.cells e) } := by
    simp [execOp, hop, Instr.box, newVar, newRow, s.eval hx]
  rw [this]
  subst hz
  exact ⟨_, _, by rw [hd]; exact s.put hN _, by simpa using m.alloc (.cells v.cells e), hp _, h _⟩

theorem run_storeCells {P : Program} {w0 : World} {M : Nat → Prop} {H : Items} {b : Nat} {t : TypeId} : ∀ (vs : List Value) (q j : Nat) (l : List Value) (w : World), SH w0 M ((b, blk l t) :: H) w → (∀ v ∈ vs, v.oneCell' = true) → q + j + vs.length ≤ l.length →
    ∃ w', (storeCells ⟨b, q, none⟩ vs j).run P w = .ok () w' ∧ SH w0 M ((b, blk (l.take (q + j) ++ vs ++ l.drop (q + j + vs.length)) t) :: H) w'
  | [], q, j, l, w, m, _, _ => ⟨w, rfl, by simpa using m⟩
  | v :: vs, q, j, l, w, m, h1, hl => by
    have hit := (m.item (b, blk l t) (by simp)).2
    simp only [List.length_cons] at hl
    have hlt : q + j < l.length := by omega
    have hc : w.cell? ⟨b, q + j, none⟩ = some l[q + j] := by simp [World.cell?, hit, hlt]
    have hfr : w.frozen? ⟨b, q + j, none⟩ = false := by simp [World.frozen?, hit]
    have hset : w.setCell ⟨b, q + j, none⟩ v = { w with heap := w.heap.setIfInBounds b (blk (l.set (q + j) v) t) } := by
      simp only [World.setCell]
      congr 1
      apply Array.ext_getElem?
      intro x
      rw [Array.getElem?_modify, Array.getElem?_setIfInBounds]
      by_cases hx : b = x
      · subst hx
        have hb := m.lt (p := (b, blk l t)) (by simp)
        simp only at hb hit
        simp [hb]
        have := (Array.getElem?_eq_some_iff.1 hit).2
        rw [this]
        simp
      · simp [hx]
    have m' := m.set (blk (l.set (q + j) v) t)
    rw [← hset] at m'
    obtain ⟨w', hr, m2⟩ := run_storeCells (P := P) vs q (j + 1) (l.set (q + j) v) _ m' (fun u hu => h1 u (List.mem_cons_of_mem _ hu)) (by simp; omega)
    refine ⟨w', ?_, ?_⟩
    · rw [storeCells]
      simp only [Sem.run_bind, add_lit, run_store _ _ _ _ _ (h1 v (by simp)), hc, hfr, Bool.false_eq_true, if_false, Result.andThen_ok, hr]
    · have e : (l.set (q + j) v).take (q + (j + 1)) ++ vs ++ (l.set (q + j) v).drop (q + (j + 1) + vs.length) = l.take (q + j) ++ v :: vs ++ l.drop (q + j + (v :: vs).length) := by
        rw [List.drop_set_of_lt (by omega)]
        have : (l.set (q + j) v).take (q + (j + 1)) = l.take (q + j) ++ [v] := by
          rw [show q + (j + 1) = q + j + 1 by omega, List.take_succ_eq_append_getElem (by simpa using hlt)]
          simp [List.take_set_of_le]
        rw [this]
        simp only [List.length_cons, List.append_assoc, List.nil_append, List.cons_append]
        rw [show q + (j + 1) + vs.length = q + j + (vs.length + 1) by omega]
      rw [← e]; exact m2

/-- A store into a block of the call's own. -/
def setsAt : List Value → Nat → List Value → List Value
  | l, _, [] => l
  | l, q, v :: vs => setsAt (l.set q v) (q + 1) vs
theorem setsAt_eq : ∀ (vs l : List Value) (q : Nat), q + vs.length ≤ l.length → setsAt l q vs = l.take q ++ vs ++ l.drop (q + vs.length)
  | [], l, q, h => by simp [setsAt]
  | v :: vs, l, q, h => by
    simp only [List.length_cons] at h
    have hlt : q < l.length := by omega
    rw [setsAt, setsAt_eq vs (l.set q v) (q + 1) (by simp; omega), List.drop_set_of_lt (by omega)]
    have : (l.set q v).take (q + 1) = l.take q ++ [v] := by
      rw [List.take_succ_eq_append_getElem (by simpa using hlt)]
      simp [List.take_set_of_le]
    rw [this]
    simp only [List.length_cons, List.append_assoc, List.nil_append, List.cons_append]
    rw [show q + 1 + vs.length = q + (vs.length + 1) by omega]

theorem GT_store {t b q nn : Nat} {x y : Operand} {v : Value} {vs l l' : List Value} {tb : TypeId} {H' : Items} [ht : HTake b H (.cells l.toArray tb (0, 0)) H'] (ho : opAt ops i = some o) (hop : o.op = .store t x y) (hg : o.guard = none) (hd : o.dst = none)
    (hx : ev L x = some (ptr b q)) (hy : ev L y = some v) (hv : v.cells.toList = vs) (hs : szOf C.P t = some nn) (hn : vs.length = nn) (h1 : vs.all (·.oneCell') = true) (hle : q + vs.length ≤ l.length) (hl' : setsAt l q vs = l')
    (hp : GR C ops L D ((b, blk l' tb) :: H') pend) (h : GT C ops k L D ((b, blk l' tb) :: H') n) : GT C ops k L D H (.ld i pend n) := by
  refine GT_ld ho hg (by simp [Oper.isDefer, hop]) fun a w s m => ?_
  obtain ⟨inf, hi, rfl⟩ := Option.map_eq_some_iff.1 hs
  subst hv
  have m' := m.perm ht.perm
  obtain ⟨w', hr, m2⟩ := run_storeCells (P := C.P) v.cells.toList q 0 l w m' (fun u hu => by simpa using List.all_eq_true.1 h1 u hu) (by simpa using hle)
  have e : (execOp a.eval o).run C.P w = .ok .skip w' := by
    simp only [execOp, hop, s.eval hx, s.eval hy, Instr.storeAt, Instr.sureAddr, storeVar, sizeOf, typeInfo]
    have hsz : v.cells.size = inf.size := by rw [← hn]; simp
    simp [hi, hsz, hr]
  rw [e]
  refine ⟨L, _, by rw [hd]; exact s, ?_, hp, h⟩
  rw [← hl', setsAt_eq _ _ _ hle]
  simpa using m2

def runs (P : Program) (f : FuncId) : Bool := match P.funcs[f]? with
  | some fn => fn.body.isSome && !(fn.name == "runtime.NumGoroutine")
  | none => false
theorem runs_of {P : Program} {f : FuncId} (h : runs P f = true) : ∃ fn c, P.funcs[f]? = some fn ∧ fn.body = some c ∧ ¬ fn.name = "runtime.NumGoroutine" := by
  unfold runs at h
  split at h
  · rename_i fn hfn
    simp only [Bool.and_eq_true, Option.isSome_iff_exists, Bool.not_eq_true'] at h
    obtain ⟨⟨c, hc⟩, hn⟩ := h
    exact ⟨fn, c, hfn, hc, by simpa using hn⟩
  · cases h
/-- A call of a Go function. x: whatever is open of the outcome. -/
theorem GT_call {ι : Type} {Hn : ι → Items} {V : ι → Value} {p : ι → Prop} {f : Operand} {args : Array Operand} {ts : Array TypeId} {fi : FuncId} {fs cs : Array Value} {vs args' : List Value}
    (ho : opAt ops i = some o) (hop : o.op = .call { callee := .value f, args := args, argTypes := ts }) (hg : o.guard = none) (hd : o.dst = some d) (hN : Nat.blt d C.N = true)
    (hf : ev L f = some (.func (.func fi) fs cs)) (ha : evs L args.toList = some vs) (he : fs.toList ++ vs ++ cs.toList = args') (hb : runs C.P fi = true)
    (hc : ∀ w, SH C.w0 C.M H w → Ret C.P fi args'.toArray w fun v w' => ∃ x, p x ∧ v = V x ∧ SH w none' (Hn x) w')
    (hp : ∀ x, p x → GR C ops ((d, V x) :: L) D (Hn x ++ H) pend) (h : ∀ x, p x → GT C ops k ((d, V x) :: L) D (Hn x ++ H) n) : GT C ops k L D H (.ld i pend n) := by
  refine GT_ld ho hg (by simp [Oper.isDefer, hop]) fun a w s m => ?_
  obtain ⟨fn, c, hfn, hbody, hname⟩ := runs_of hb
  have e0 : args.map a.eval = vs.toArray := by
    have := s.evals ha
    rw [← this]; obtain ⟨l⟩ := args; simp
  have e1 : fs ++ vs.toArray ++ cs = args'.toArray := by rw [← he]; simp
  have e : (execOp a.eval o).run C.P w = .ok (.enter fi args'.toArray) w := by
    simp [execOp, hop, resolve, s.eval hf, Deferred.ofValue, invoke, callFunc, hfn, hbody, hname, e0, e1]
  rw [e]
  exact (hc w m).mono fun v w' ⟨x, hx, hv, m'⟩ => by
    subst hv
    exact ⟨_, _, by rw [hd]; exact s.put hN _, m.trans m', hp x hx, h x hx⟩
end acts
end Go.Sx
