/-
  Structs and arrays of numbers, compared.
-/
import Derived.Test.YtdcjgjopmicidaaDoorSxH
namespace Go.Sx
open Go.RowKit

def intF (P : Program) (fs : Array Field) : Bool := (List.range fs.size).all fun j => match fs[j]? with
  | some f => f.name != "_" && decide (f.offset = j) && (match P.underlying f.type with | some (.int _) => true | _ => false)
  | none => false
def isStruct (P : Program) (t : TypeId) (n : Nat) : Bool := match P.underlying t with
  | some (.struct fs) => decide (fs.size = n) && intF P fs && !P.stoodInHeld t && !P.eqGuardType P.depth t
  | _ => false
theorem eqFields_ints {P : Program} {w : World} {d : Nat} {k : IntKind} {zs zs' : List Int} (hl : zs.length = zs'.length) : ∀ (fs : List Field) (j : Nat), (∀ i f, fs[i]? = some f → f.name ≠ "_" ∧ f.offset = j + i ∧ ∃ k', P.underlying f.type = some (.int k')) → j + fs.length = zs.length →
    (Op.eqFields (d + 1) (zs.map (fun z => Value.int k z)).toArray (zs'.map (fun z => Value.int k z)).toArray fs).run P w = .ok (decide (zs.drop j = zs'.drop j)) w := by
  intro fs
  induction fs with
  | nil =>
    intro j _ hj
    simp only [List.length_nil, Nat.add_zero] at hj
    rw [List.drop_of_length_le (by omega), List.drop_of_length_le (by omega)]
    simp [Op.eqFields]
  | cons f fs ih =>
    intro j hf hj
    simp only [List.length_cons] at hj
    obtain ⟨h1, h2, k', h3⟩ := hf 0 f rfl
    have hj1 : j < zs.length := by omega
    have hj2 : j < zs'.length := by omega
    have p0 : ∀ (l : List Int) (h : j < l.length), (part f.type (l.map (fun z => Value.int k z)).toArray f.offset).run P w = .ok (.int k l[j]) w := fun l h => run_part h3 (by rw [h2]; simp [h])
    have e0 := fun x y => equal_int (w := w) (k := k) (a := x) (b := y) d h3
    have hi := ih (j + 1) (fun i g hg => by
      have := hf (i + 1) g hg
      exact ⟨this.1, by omega, this.2.2⟩) (by omega)
    have ed : (zs.drop j = zs'.drop j) ↔ (zs[j] = zs'[j] ∧ zs.drop (j + 1) = zs'.drop (j + 1)) := by
      rw [List.drop_eq_getElem_cons hj1, List.drop_eq_getElem_cons hj2, List.cons.injEq]
    rw [Op.eqFields]
    by_cases he : zs[j] = zs'[j]
    · simp [h1, p0 zs hj1, p0 zs' hj2, e0, he, hi, ed]
    · simp [h1, p0 zs hj1, p0 zs' hj2, e0, he, ed]
theorem equal_ints {P : Program} {w : World} {t : TypeId} {n : Nat} {k : IntKind} {zs zs' : List Int} (hs : isStruct P t n = true) (h1 : zs.length = n) (h2 : zs'.length = n) (d : Nat) :
    (Op.equalIn (d + 1 + 1) t (.agg (zs.map (fun z => Value.int k z)).toArray) (.agg (zs'.map (fun z => Value.int k z)).toArray)).run P w = .ok (decide (zs = zs')) w ∧ P.eqGuardType P.depth t = false := by
  unfold isStruct at hs
  split at hs
  · rename_i fs hu
    simp only [Bool.and_eq_true, Bool.not_eq_true', decide_eq_true_iff] at hs
    obtain ⟨⟨⟨q1, q2⟩, q3⟩, q4⟩ := hs
    refine ⟨?_, q4⟩
    have hff : P.fieldsOf t = fs := by unfold Program.fieldsOf; rw [hu]
    rw [run_equalIn_struct w (d + 1) t _ _ (by rw [hff]; exact hu) q3, hff]
    have := eqFields_ints (P := P) (w := w) (d := d) (k := k) (zs := zs) (zs' := zs') (by omega) fs.toList 0 (fun i f hf => by
      have hi : fs[i]? = some f := by simpa using hf
      have h3 := List.all_eq_true.1 q2 i (by rw [List.mem_range]; exact (Array.getElem?_eq_some_iff.1 hi).1)
      rw [hi] at h3
      simp only [Bool.and_eq_true, decide_eq_true_iff, bne_iff_ne] at h3
      refine ⟨h3.1.1, by omega, ?_⟩
      have h4 := h3.2
      split at h4
      · rename_i k' hk; exact ⟨k', hk⟩
      · cases h4) (by simp; omega)
    simpa using this
  · cases hs
theorem equal_arr2 {P : Program} {t e : TypeId} {k k0 : IntKind} {a b c f : Int} {w : World} (ht : P.underlying t = some (.array 2 e)) (h0 : P.underlying e = some (.int k0)) (hs : szOf P e = some 1) (d : Nat) :
    (Op.equalIn (d + 1 + 1) t (.agg #[.int k a, .int k b]) (.agg #[.int k c, .int k f])).run P w = .ok (a == c && b == f) w := by
  obtain ⟨inf, hi, h1⟩ := Option.map_eq_some_iff.1 hs
  have p0 : ∀ x y : Int, (part e #[.int k x, .int k y] 0).run P w = .ok (.int k x) w := fun x y => run_part h0 rfl
  have p1 : ∀ x y : Int, (part e #[.int k x, .int k y] 1).run P w = .ok (.int k y) w := fun x y => run_part h0 rfl
  have e0 : ∀ x y : Int, (Op.equalIn (d + 1) e (.int k x) (.int k y)).run P w = .ok (x == y) w := fun x y => equal_int d h0
  have hz : (sizeOf e).run P w = .ok 1 w := by simp [sizeOf, typeInfo, hi, h1]
  rw [Op.equalIn]
  have hr : List.range' 0 2 = [0, 1] := rfl
  by_cases h : a = c
  · by_cases h2 : b = f
    · simp [underlying, ht, hz, p0, p1, e0, h, h2, hr]
    · simp [underlying, ht, hz, p0, p1, e0, h, h2, hr]
  · simp [underlying, ht, hz, p0, p1, e0, h, hr]
section
variable {C : Cx} {L : Slots} {H : Items} {o : Oper} {t t' e : TypeId} {x y : Operand} {n : Nat} {k k0 : IntKind} {zs zs' : List Int} {a b c f : Int}
theorem V_eqlInts (ho : o.op = .binOp .eql t x y t') (hx : ev L x = some (.agg (zs.map (fun z => Value.int k z)).toArray)) (hy : ev L y = some (.agg (zs'.map (fun z => Value.int k z)).toArray)) (hs : isStruct C.P t n = true) (h1 : zs.length = n) (h2 : zs'.length = n) : OpV C L H o (.bool (decide (zs = zs'))) := fun D act w st m => by
  obtain ⟨h, hg⟩ := equal_ints (w := w) (k := k) hs h1 h2 9998
  have h' : (Op.equalIn Op.maxDepth t (.agg (zs.map (fun z => Value.int k z)).toArray) (.agg (zs'.map (fun z => Value.int k z)).toArray)).run C.P w = .ok (decide (zs = zs')) w := h
  simp [execOp, ho, st.eval hx, st.eval hy, eqGuard, binOp, Op.equal, hg, h']
theorem V_neqInts (ho : o.op = .binOp .neq t x y t') (hx : ev L x = some (.agg (zs.map (fun z => Value.int k z)).toArray)) (hy : ev L y = some (.agg (zs'.map (fun z => Value.int k z)).toArray)) (hs : isStruct C.P t n = true) (h1 : zs.length = n) (h2 : zs'.length = n) : OpV C L H o (.bool (decide (¬ zs = zs'))) := fun D act w st m => by
  obtain ⟨h, hg⟩ := equal_ints (w := w) (k := k) hs h1 h2 9998
  have h' : (Op.equalIn Op.maxDepth t (.agg (zs.map (fun z => Value.int k z)).toArray) (.agg (zs'.map (fun z => Value.int k z)).toArray)).run C.P w = .ok (decide (zs = zs')) w := h
  simp [execOp, ho, st.eval hx, st.eval hy, eqGuard, binOp, Op.equal, hg, h']
theorem V_eqlArr2 (ho : o.op = .binOp .eql t x y t') (hx : ev L x = some (.agg #[.int k a, .int k b])) (hy : ev L y = some (.agg #[.int k c, .int k f])) (ht : C.P.underlying t = some (.array 2 e)) (h0 : C.P.underlying e = some (.int k0)) (hs : szOf C.P e = some 1) (hg : C.P.eqGuardType C.P.depth t = false) : OpV C L H o (.bool (a == c && b == f)) := fun D act w st m => by
  have h' : (Op.equalIn Op.maxDepth t (.agg #[.int k a, .int k b]) (.agg #[.int k c, .int k f])).run C.P w = .ok (a == c && b == f) w := equal_arr2 ht h0 hs 9998
  simp [execOp, ho, st.eval hx, st.eval hy, eqGuard, binOp, Op.equal, hg, h']
theorem V_neqArr2 (ho : o.op = .binOp .neq t x y t') (hx : ev L x = some (.agg #[.int k a, .int k b])) (hy : ev L y = some (.agg #[.int k c, .int k f])) (ht : C.P.underlying t = some (.array 2 e)) (h0 : C.P.underlying e = some (.int k0)) (hs : szOf C.P e = some 1) (hg : C.P.eqGuardType C.P.depth t = false) : OpV C L H o (.bool (!(a == c && b == f))) := fun D act w st m => by
  have h' : (Op.equalIn Op.maxDepth t (.agg #[.int k a, .int k b]) (.agg #[.int k c, .int k f])).run C.P w = .ok (a == c && b == f) w := equal_arr2 ht h0 hs 9998
  simp [execOp, ho, st.eval hx, st.eval hy, eqGuard, binOp, Op.equal, hg, h']
end
end Go.Sx
