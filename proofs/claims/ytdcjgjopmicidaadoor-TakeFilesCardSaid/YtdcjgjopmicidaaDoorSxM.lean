/-
  Shifts to the left, and the bits of two numbers.
-/
import Derived.Test.YtdcjgjopmicidaaDoorSxL
namespace Go.Sx
open Go.RowKit

section
variable {C : Cx} {L : Slots} {H : Items} {o : Oper} {t t' : TypeId} {x y : Operand}
theorem V_shl {k yk : IntKind} {a z : Int} {s : Nat} (ho : o.op = .binOp .shl t x y t') (hx : ev L x = some (.int k a)) (hy : ev L y = some (.int yk s)) (hs : s ≤ k.bits) (hz : k.wrap (a * 2 ^ s) = z) : OpV C L H o (.int k z) := fun D act w st m => by
  have h1 : min s k.bits = s := Nat.min_eq_left hs
  have h0 : ¬ ((s : Int) < 0) := by omega
  simp [execOp, ho, st.eval hx, st.eval hy, eqGuard, binOp, Op.shift, h1, h0, hz]
theorem or_nat (a b : Nat) (ha : a < 2 ^ 63) (hb : b < 2 ^ 63) : (BitVec.ofInt 64 (a : Int) ||| BitVec.ofInt 64 (b : Int)).toNat = a ||| b := by
  rw [BitVec.toNat_or, BitVec.ofInt_natCast, BitVec.ofInt_natCast, BitVec.toNat_ofNat, BitVec.toNat_ofNat, Nat.mod_eq_of_lt (by omega), Nat.mod_eq_of_lt (by omega)]
theorem V_or8 {a b z : Int} {p q : Nat} (ho : o.op = .binOp .or t x y t') (hx : ev L x = some (.int .i64 a)) (hy : ev L y = some (.int .i64 b)) (hp : a = ((256 * p : Nat) : Int)) (hq : b = (q : Int)) (hb : p < 256 ∧ q < 256) (hz : z = 256 * p + q) : OpV C L H o (.int .i64 z) := fun D act w st m => by
  subst hp; subst hq; subst hz
  have e0 := or_nat (256 * p) q (by omega) (by omega)
  have e1 : 256 * p ||| q = 256 * p + q := (Nat.two_pow_add_eq_or_of_lt (i := 8) (by omega) p).symm
  have e2 : IntKind.i64.wrap (((256 * p + q : Nat) : Int)) = 256 * p + q := by rw [wrap_i64 (by omega)]; omega
  have key : (Op.intBits .or .i64 ((256 * p : Nat) : Int) (q : Int)).run C.P w = .ok (.int .i64 (256 * p + q)) w := by
    have e3 : (BitVec.ofInt IntKind.i64.bits ((256 * p : Nat) : Int) ||| BitVec.ofInt IntKind.i64.bits (q : Int)).toNat = 256 * p + q := e0.trans e1
    unfold Op.intBits
    simp only [e3, e2]
    rfl
  have e4 : (binOp .or t (.int .i64 ((256 * p : Nat) : Int)) (.int .i64 (q : Int))).run C.P w = .ok (.int .i64 (256 * p + q)) w := by
    rw [binOp_or]; exact key
  simp only [execOp, ho, st.eval hx, st.eval hy, eqGuard, ite_self, Sem.run_bind, Sem.run_pure, Result.andThen, e4]
end
section
variable {C : Cx} {L : Slots} {D : List Deferred} {H : Items} {k : List Item} {ops : Array Oper} {i d : Nat} {o : Oper} {n : Tr} {pend : List Nat}
theorem GT_ldv_g {v : Value} {j dj : Nat} {g : Bool} {oj : Oper} (ho : opAt ops i = some o) (hg : o.guard = some (j, g)) (hj : opAt ops j = some oj) (hdj : oj.dst = some dj) (hl : look L dj = some (.bool g)) (hd : o.dst = some d) (hN : Nat.blt d C.N = true) (hq : Oper.isDefer o = false) (hv : OpV C L H o v) (hp : GR C ops ((d, v) :: L) D H pend) (h : GT C ops k ((d, v) :: L) D H n) :
    GT C ops k L D H (.ld i pend n) := by
  refine GT_ld_g ho hg hj hdj hl hq fun a w s m => ?_
  rw [hv D a w s m]
  exact ⟨_, _, by rw [hd]; exact s.put hN _, m, hp, h⟩
end
end Go.Sx
