/- Texts of this proof, one behind the other: SxO, SxP. -/
import Derived.Test.YtpbflnfcgcldkaaGreatDoorMt12
import Derived.Lib.Builder
import Derived.Laws.Externs
/-
  What strings.Builder's copyCheck asks: pointers as they are.
-/
namespace Go.Sx
open Go.RowKit
section
variable {C : Cx} {L : Slots} {H : Items} {o : Oper} {t t' e : TypeId} {x y : Operand}
theorem shape_of {w0 w : World} {M : Nat → Prop} {b : Nat} {cs : List Value} {T : TypeId} (m : SH w0 M H w) [hf : HFind b H (blk cs T)] : w.shape? b = some (T, cs.length) := by
  have h := (m.item _ hf.mem).2
  simp only at h
  simp [World.shape?, h, blk]
theorem V_toUnsafe {b q k : Nat} {T : TypeId} {cs : List Value} [hf : HFind b H (blk cs T)] (ho : o.op = .convert t t' x) (hx : ev L x = some (ptr b q)) (ht : C.P.underlying t = some (.pointer e)) (ht' : C.P.underlying t' = some .unsafePointer) (hs : szOf C.P e = some k) (hk : k ≠ 0) (hq : q < cs.length) :
    OpV C L H o (ptr b q) := fun D a w s m => by
  obtain ⟨j, hj, rfl⟩ := Option.map_eq_some_iff.1 hs
  have key : (convert t t' (ptr b q)).run C.P w = .ok (ptr b q) w := Go.Lib.run_to_unsafe w ⟨b, q, none⟩ ht ht' hj hk (shape_of m) hq
  simp [execOp, ho, s.eval hx, key]
theorem V_fromUnsafe {b q k : Nat} {T : TypeId} {cs : List Value} [hf : HFind b H (blk cs T)] (ho : o.op = .convert t t' x) (hx : ev L x = some (ptr b q)) (ht : C.P.underlying t = some .unsafePointer) (ht' : C.P.underlying t' = some (.pointer e)) (hs : szOf C.P e = some k) (hlies : liesAt C.P C.P.depth T (cs.length / C.P.cellsOf T) q e 1 = true) :
    OpV C L H o (ptr b q) := fun D a w s m => by
  obtain ⟨j, hj, rfl⟩ := Option.map_eq_some_iff.1 hs
  have key : (convert t t' (ptr b q)).run C.P w = .ok (ptr b q) w := Go.Lib.run_from_unsafe w ⟨b, q, none⟩ ht ht' hj (shape_of m) hlies
  simp [execOp, ho, s.eval hx, key]
theorem V_noEscape {f : Operand} {ts : Array TypeId} {fi : FuncId} {fn : Func} {v : Value} (ho : o.op = .call { callee := .value f, args := #[x], argTypes := ts }) (hf : ev L f = some (.func (.func fi) #[] #[])) (hx : ev L x = some v)
    (hfn : C.P.funcs[fi]? = some fn) (hname : (fn.name == "runtime.NumGoroutine") = false) (hb : fn.body.isNone = true) (hn : Extern.findNext fn = none) (he : Extern.find fn = some Extern.AbiNoEscape.same) : OpV C L H o v := fun D a w s m => by
  have key := run_callFunc_extern hfn hname hb hn he #[v] w
  rw [Go.Lib.run_noEscape] at key
  simp [execOp, ho, resolve, s.eval hf, s.eval hx, Deferred.ofValue, invoke, key, Result.andThen]
theorem equal_nilptr {P : Program} {w : World} {tp te : TypeId} (hp : P.underlying tp = some (.pointer te)) (A : Option Addr) : (Op.equal tp (.pointer A) (.pointer none)).run P w = .ok A.isNone w := by
  have h : ∀ d : Nat, (Op.equalIn (d + 1) tp (.pointer A) (.pointer none)).run P w = .ok A.isNone w := fun d => by
    cases A <;> simp [Op.equalIn, run_underlying hp]
  simp [Op.equal, Op.maxDepth, h 9999]
theorem V_eqlNilPtr {A : Option Addr} (ho : o.op = .binOp .eql t x y t') (hx : ev L x = some (.pointer A)) (hy : ev L y = some (.pointer none)) (ht : C.P.underlying t = some (.pointer e)) : OpV C L H o (.bool A.isNone) := fun D a w s _ => by
  have key := equal_nilptr (w := w) ht A
  simp [execOp, ho, s.eval hx, s.eval hy, eqGuard, binOp, key]
theorem V_neqPtrSame {k : Nat} {g : Addr} (ho : o.op = .binOp .neq t x y t') (hx : ev L x = some (.pointer (some g))) (hy : ev L y = some (.pointer (some g))) (ht : C.P.underlying t = some (.pointer e)) (hs : szOf C.P e = some k) : OpV C L H o (.bool false) := fun D a w s _ => by
  obtain ⟨j, hj, rfl⟩ := Option.map_eq_some_iff.1 hs
  have key := Go.Lib.run_neq_ptr_same w g ht hj
  simp only [execOp, ho, s.eval hx, s.eval hy, eqGuard, ite_self, Sem.run_bind, Sem.run_pure, Result.andThen, key]
end
end Go.Sx
/-
  Strings joined, and pieces of strings.
-/
namespace Go.Sx
open Go.RowKit
section
variable {C : Cx} {L : Slots} {H : Items} {o : Oper} {t t' : TypeId} {x y z : Operand} {a b : ByteArray} {kd kz : IntKind} {lo hi : Nat}
theorem V_addStr (ho : o.op = .binOp .add t x y t') (hx : ev L x = some (.string a)) (hy : ev L y = some (.string b)) (hsz : a.size + b.size ≤ 9223372036854775807) : OpV C L H o (.string (a ++ b)) := fun D act w st _ => by
  simp [execOp, ho, st.eval hx, st.eval hy, eqGuard, binOp, Op.stringOp]
  omega
theorem V_sliceStr {q1 q2 : Int} (ho : o.op = .slice t x (some y) (some z) none) (hx : ev L x = some (.string a)) (hy : ev L y = some (.int kd q1)) (hz : ev L z = some (.int kz q2)) (ht : C.P.underlying t = some .string) (h1 : q1 = (lo : Int)) (h2 : q2 = (hi : Int)) (hh : lo ≤ hi ∧ hi ≤ a.size) :
    OpV C L H o (.string (a.extract lo hi)) := fun D act w st _ => by
  subst h1; subst h2
  simp [execOp, ho, st.eval hx, st.eval hy, st.eval hz, Instr.sliceAt, underlying, ht, Instr.slice, Instr.sliceBounds, Instr.sliceBound, asIntOf, hh.1, hh.2]
end
end Go.Sx
