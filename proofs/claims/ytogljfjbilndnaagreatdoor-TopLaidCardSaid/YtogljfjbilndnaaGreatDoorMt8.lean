/- Texts of this proof, one behind the other: SxO, SxS. -/
import Derived.Test.YtogljfjbilndnaaGreatDoorMt7
import Derived.Lib.Builder
import Derived.Laws.Externs
/-
  What strings.Builder's copyCheck asks: pointers as they are.
-/
namespace Go.Sx
open Go.RowKit
section
variable {C : Cx} {L : Slots} {H : Items} {o : Oper} {t t' e : TypeId} {x y : Operand}
theorem shape_of {w0 w : World} {M : Nat → Prop} {b : Nat} {cs : List Value} {T : TypeId} (m : SH w0 M H w) [hf : HFind b H (blk cs T)] : w.shape? b = some (T, cs.length) := by
  have h := (m.item _ hf.mem).2
  simp only at h
  simp [World.shape?, h, blk]
theorem V_noEscape {f : Operand} {ts : Array TypeId} {fi : FuncId} {fn : Func} {v : Value} (ho : o.op = .call { callee := .value f, args := #[x], argTypes := ts }) (hf : ev L f = some (.func (.func fi) #[] #[])) (hx : ev L x = some v)
    (hfn : C.P.funcs[fi]? = some fn) (hname : (fn.name == "runtime.NumGoroutine") = false) (hb : fn.body.isNone = true) (hn : Extern.findNext fn = none) (he : Extern.find fn = some Extern.AbiNoEscape.same) : OpV C L H o v := fun D a w s m => by
  have key := run_callFunc_extern hfn hname hb hn he #[v] w
  rw [Go.Lib.run_noEscape] at key
  simp [execOp, ho, resolve, s.eval hf, s.eval hx, Deferred.ofValue, invoke, key, Result.andThen]
theorem equal_nilptr {P : Program} {w : World} {tp te : TypeId} (hp : P.underlying tp = some (.pointer te)) (A : Option Addr) : (Op.equal tp (.pointer A) (.pointer none)).run P w = .ok A.isNone w := by
  have h : ∀ d : Nat, (Op.equalIn (d + 1) tp (.pointer A) (.pointer none)).run P w = .ok A.isNone w := fun d => by
    cases A <;> simp [Op.equalIn, run_underlying hp]
  simp [Op.equal, Op.maxDepth, h 9999]
theorem V_eqlNilPtr {A : Option Addr} (ho : o.op = .binOp .eql t x y t') (hx : ev L x = some (.pointer A)) (hy : ev L y = some (.pointer none)) (ht : C.P.underlying t = some (.pointer e)) : OpV C L H o (.bool A.isNone) := fun D a w s _ => by
  have key := equal_nilptr (w := w) ht A
  simp [execOp, ho, s.eval hx, s.eval hy, eqGuard, binOp, key]
theorem V_neqPtrSame {k : Nat} {g : Addr} (ho : o.op = .binOp .neq t x y t') (hx : ev L x = some (.pointer (some g))) (hy : ev L y = some (.pointer (some g))) (ht : C.P.underlying t = some (.pointer e)) (hs : szOf C.P e = some k) : OpV C L H o (.bool false) := fun D a w s _ => by
  obtain ⟨j, hj, rfl⟩ := Option.map_eq_some_iff.1 hs
  have key := Go.Lib.run_neq_ptr_same w g ht hj
  simp only [execOp, ho, s.eval hx, s.eval hy, eqGuard, ite_self, Sem.run_bind, Sem.run_pure, Result.andThen, key]
end
end Go.Sx
/-
  Slices of slices with a greatest capacity.
-/
namespace Go.Sx
open Go.RowKit
section
variable {C : Cx} {L : Slots} {H : Items} {o : Oper}
theorem V_sliceTo3 {x y z : Operand} {t e n c : Nat} {A : Option Addr} {kd kz : IntKind} {h mx : Nat} (ho : o.op = .slice t x none (some y) (some z)) (hx : ev L x = some (.slice A n c)) (hy : ev L y = some (.int kd (h : Int))) (hz : ev L z = some (.int kz (mx : Int))) (ht : C.P.underlying t = some (.slice e))
    (hs : (szOf C.P e).isSome = true) (hh : h ≤ mx) (hm : mx ≤ c) : OpV C L H o (.slice A h mx) := fun D a w s m => by
  obtain ⟨zz, hzz⟩ := Option.isSome_iff_exists.1 hs
  obtain ⟨i, hi, _⟩ := Option.map_eq_some_iff.1 hzz
  have e1 : ¬ mx = 0 → Option.map (fun x => x.add 0) A = A := fun _ => by cases A <;> simp [add_zero']
  simp [execOp, ho, s.eval hx, s.eval hy, s.eval hz, Instr.sliceAt, underlying, ht, Instr.slice, Instr.sliceBounds, Instr.sliceBound, asIntOf, hh, hm, sizeOf, typeInfo, hi]
  exact e1
end
section
variable {C : Cx} {k : List Item} {L : Slots} {D : List Deferred} {H : Items} {ops : Array Oper} {i d : Nat} {o : Oper} {n : Tr} {pend : List Nat}
theorem GT_makeSliceC {t e sz by_ nn mm : Nat} {x y : Operand} {k1 k2 : IntKind} {z1 z2 : Int} {z : List Value} (ho : opAt ops i = some o) (hop : o.op = .makeSlice t x y) (hg : o.guard = none) (hd : o.dst = some d) (hN : Nat.blt d C.N = true) (hx : ev L x = some (.int k1 z1)) (hy : ev L y = some (.int k2 z2)) (ht : C.P.underlying t = some (.slice e)) (hz : zcOf C.P e = some z) (hs : szOf C.P e = some sz) (hb : byOf C.P e = some by_)
    (h12 : z1 = (mm : Int) ∧ z2 = (nn : Int) ∧ z.length = sz) (hmn : mm ≤ nn) (hn : nn ≤ 1099511627776 ∧ by_ * nn ≤ 281474976710656)
    (hp : ∀ b, GR C ops ((d, .slice (some ⟨b, 0, none⟩) mm nn) :: L) D ((b, blk ((List.replicate nn z).flatten) e) :: H) pend) (h : ∀ b, GT C ops k ((d, .slice (some ⟨b, 0, none⟩) mm nn) :: L) D ((b, blk ((List.replicate nn z).flatten) e) :: H) n) : GT C ops k L D H (.ld i pend n) := by
  refine GT_ld ho hg (by simp [Oper.isDefer, hop]) fun a w s m => ?_
  obtain ⟨v, hv, rfl⟩ := Option.map_eq_some_iff.1 hz
  obtain ⟨inf, hi, hz0⟩ := Option.bind_eq_some_iff.1 hv
  obtain ⟨inf', hi', rfl⟩ := Option.map_eq_some_iff.1 hs
  obtain ⟨inf'', hi'', rfl⟩ := Option.map_eq_some_iff.1 hb
  rw [hi] at hi' hi''; cases hi'; cases hi''
  have hsz : v.cells.toList.length = inf.size := h12.2.2
  obtain ⟨rfl, rfl, _⟩ := h12
  have hby : (inf.bytes : Int) * (nn : Int) ≤ 281474976710656 := by
    have : ((inf.bytes * nn : Nat) : Int) ≤ 281474976710656 := by omega
    rwa [Int.natCast_mul] at this
  have hrun := run_make (P := C.P) w t e inf v ht hi hz0 k1 k2 mm nn (by omega) (by omega) hby (by omega)
  simp only [Int.toNat_natCast] at hrun
  have e1 : (execOp a.eval o).run C.P w = .ok (.value (.slice (some ⟨w.heap.size, 0, none⟩) mm nn)) { w with heap := w.heap.push (.cells (madeCells v.cells (nn * inf.size)) e) } := by
    simp only [execOp, hop, s.eval hx, s.eval hy, Sem.run_bind, hrun, Result.andThen_ok]
    rfl
  rw [e1]
  have e2 : madeCells v.cells (nn * inf.size) = ((List.replicate nn v.cells.toList).flatten).toArray := made_eq nn _ _ hsz.symm
  rw [e2]
  exact ⟨_, _, by rw [hd]; exact s.put hN _, m.alloc _, hp _, h _⟩
end
end Go.Sx
