/-
  Structs of two numbers, compared.
-/
import Derived.Test.YtdcjgjopmicidaaDoorSxE
namespace Go.Sx
open Go.RowKit

theorem run_part {P : Program} {t : TypeId} {cs : Array Value} {off : Nat} {v : Value} {w : World} {k : IntKind} (ht : P.underlying t = some (.int k)) (hv : cs[off]? = some v) : (part t cs off).run P w = .ok v w := by
  simp [part, isAgg, underlying, ht, hv]
theorem equal_int {P : Program} {t : TypeId} {k k' : IntKind} {a b : Int} {w : World} (d : Nat) (ht : P.underlying t = some (.int k')) : (Op.equalIn (d + 1) t (.int k a) (.int k b)).run P w = .ok (a == b) w := by
  simp [Op.equalIn, underlying, ht]
theorem equal_two {P : Program} {t : TypeId} {f0 f1 : Go.Field} {k k0 k1 : IntKind} {a b c e : Int} {w : World} (ht : P.underlying t = some (.struct #[f0, f1])) (h0 : f0.name ≠ "_") (h1 : f1.name ≠ "_") (o0 : f0.offset = 0) (o1 : f1.offset = 1)
    (t0 : P.underlying f0.type = some (.int k0)) (t1 : P.underlying f1.type = some (.int k1)) (hs : P.stoodInHeld t = false) (d : Nat) :
    (Op.equalIn (d + 1 + 1) t (.agg #[.int k a, .int k b]) (.agg #[.int k c, .int k e])).run P w = .ok (a == c && b == e) w := by
  have p0 : ∀ x y : Int, (part f0.type #[.int k x, .int k y] f0.offset).run P w = .ok (.int k x) w := fun x y => run_part t0 (by rw [o0]; rfl)
  have p1 : ∀ x y : Int, (part f1.type #[.int k x, .int k y] f1.offset).run P w = .ok (.int k y) w := fun x y => run_part t1 (by rw [o1]; rfl)
  have e0 : ∀ x y : Int, (Op.equalIn (d + 1) f0.type (.int k x) (.int k y)).run P w = .ok (x == y) w := fun x y => equal_int d t0
  have e1 : ∀ x y : Int, (Op.equalIn (d + 1) f1.type (.int k x) (.int k y)).run P w = .ok (x == y) w := fun x y => equal_int d t1
  rw [Op.equalIn]
  by_cases h : a = c
  · simp [underlying, ht, hs, h0, h1, p0, p1, e0, e1, h]
    by_cases h2 : b = e <;> simp [h2]
  · simp [underlying, ht, hs, h0, h1, p0, p1, e0, e1, h]
section
variable {C : Cx} {L : Slots} {H : Items} {o : Oper} {t t' : TypeId} {x y : Operand} {f0 f1 : Go.Field} {k k0 k1 : IntKind} {a b c e : Int}
theorem V_eqlTwo (ho : o.op = .binOp .eql t x y t') (hx : ev L x = some (.agg #[.int k a, .int k b])) (hy : ev L y = some (.agg #[.int k c, .int k e])) (ht : C.P.underlying t = some (.struct #[f0, f1])) (h0 : f0.name ≠ "_") (h1 : f1.name ≠ "_") (o0 : f0.offset = 0) (o1 : f1.offset = 1)
    (t0 : C.P.underlying f0.type = some (.int k0)) (t1 : C.P.underlying f1.type = some (.int k1)) (hs : C.P.stoodInHeld t = false) (hg : C.P.eqGuardType C.P.depth t = false) : OpV C L H o (.bool (a == c && b == e)) := fun D act w st m => by
  have h : (Op.equalIn Op.maxDepth t (.agg #[.int k a, .int k b]) (.agg #[.int k c, .int k e])).run C.P w = .ok (a == c && b == e) w := equal_two ht h0 h1 o0 o1 t0 t1 hs _
  simp [execOp, ho, st.eval hx, st.eval hy, eqGuard, binOp, Op.equal, hg, h]
theorem V_neqTwo (ho : o.op = .binOp .neq t x y t') (hx : ev L x = some (.agg #[.int k a, .int k b])) (hy : ev L y = some (.agg #[.int k c, .int k e])) (ht : C.P.underlying t = some (.struct #[f0, f1])) (h0 : f0.name ≠ "_") (h1 : f1.name ≠ "_") (o0 : f0.offset = 0) (o1 : f1.offset = 1)
    (t0 : C.P.underlying f0.type = some (.int k0)) (t1 : C.P.underlying f1.type = some (.int k1)) (hs : C.P.stoodInHeld t = false) (hg : C.P.eqGuardType C.P.depth t = false) : OpV C L H o (.bool (!(a == c && b == e))) := fun D act w st m => by
  have h : (Op.equalIn Op.maxDepth t (.agg #[.int k a, .int k b]) (.agg #[.int k c, .int k e])).run C.P w = .ok (a == c && b == e) w := equal_two ht h0 h1 o0 o1 t0 t1 hs _
  simp [execOp, ho, st.eval hx, st.eval hy, eqGuard, binOp, Op.equal, hg, h]
end
end Go.Sx
