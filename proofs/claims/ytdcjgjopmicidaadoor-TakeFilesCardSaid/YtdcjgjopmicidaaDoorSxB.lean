/-
  Slices of slices.
-/
import Derived.Test.YtdcjgjopmicidaaDoorSxA
namespace Go.Sx
open Go.RowKit

/-- where a slice begins that is cut off from another one -/
def slA (c lo sz : Nat) (A : Option Addr) : Option Addr := if c = lo then A else A.map (·.add (lo * sz))
theorem RdL.drop {α : Type} {w : World} {sz : Nat} {enc : α → List Value} {A : Option Addr} {l : List α} (h : RdL w sz enc A l) {c : Nat} (lo : Nat) (hc : l.length ≤ c) : RdL w sz enc (slA c lo sz A) (l.drop lo) := by
  by_cases hn : l.length ≤ lo
  · rw [List.drop_eq_nil_of_le hn]; exact RdL.nil
  · have hs : A.isSome = true := h.isSome (k := 0) (by omega)
    obtain ⟨a, rfl⟩ := Option.isSome_iff_exists.1 hs
    unfold slA
    rw [if_neg (by omega)]
    refine ⟨fun _ => rfl, fun k x hk j v hv => ?_⟩
    rw [List.getElem?_drop] at hk
    have := h.cell (lo + k) x hk j v hv
    simp only [ad, Option.map_some, Option.getD_some, add_add'] at this ⊢
    rw [← this]; congr 2; rw [Nat.add_mul]; omega

section
variable {C : Cx} {L : Slots} {H : Items} {o : Oper} {t e n c lo hi sz : Nat} {A : Option Addr} {x y z : Operand} {kd kz : IntKind}
theorem V_sliceFrom (ho : o.op = .slice t x (some y) none none) (hx : ev L x = some (.slice A n c)) (hy : ev L y = some (.int kd (lo : Int))) (ht : C.P.underlying t = some (.slice e))
    (hs : szOf C.P e = some sz) (hh : lo ≤ n) : OpV C L H o (.slice (slA c lo sz A) (n - lo) (c - lo)) := fun D a w s m => by
  obtain ⟨i, hi, rfl⟩ := Option.map_eq_some_iff.1 hs
  simp [execOp, ho, s.eval hx, s.eval hy, Instr.sliceAt, underlying, ht, Instr.slice, Instr.sliceBounds, Instr.sliceBound, asIntOf, hh, sizeOf, typeInfo, hi, slA]
theorem V_sliceFT (ho : o.op = .slice t x (some y) (some z) none) (hx : ev L x = some (.slice A n c)) (hy : ev L y = some (.int kd (lo : Int))) (hz : ev L z = some (.int kz (hi : Int))) (ht : C.P.underlying t = some (.slice e))
    (hs : szOf C.P e = some sz) (hh : lo ≤ hi) (hc : hi ≤ c) : OpV C L H o (.slice (slA c lo sz A) (hi - lo) (c - lo)) := fun D a w s m => by
  obtain ⟨i, hi, rfl⟩ := Option.map_eq_some_iff.1 hs
  simp [execOp, ho, s.eval hx, s.eval hy, s.eval hz, Instr.sliceAt, underlying, ht, Instr.slice, Instr.sliceBounds, Instr.sliceBound, asIntOf, hh, hc, sizeOf, typeInfo, hi, slA]
theorem V_sliceFromL {α : Type} {l : List α} {q : Int} (ho : o.op = .slice t x (some y) none none) (hx : ev L x = some (.slice A l.length c)) (hy : ev L y = some (.int kd q)) (ht : C.P.underlying t = some (.slice e))
    (hs : szOf C.P e = some sz) (hq : q = (lo : Int)) (hh : lo ≤ l.length) : OpV C L H o (.slice (slA c lo sz A) (l.drop lo).length (c - lo)) := by
  subst hq; rw [List.length_drop]; exact V_sliceFrom ho hx hy ht hs hh
theorem V_sliceToL {α : Type} {l : List α} {q : Int} (ho : o.op = .slice t x none (some y) none) (hx : ev L x = some (.slice A l.length c)) (hy : ev L y = some (.int kd q)) (ht : C.P.underlying t = some (.slice e))
    (hs : (szOf C.P e).isSome = true) (hq : q = (hi : Int)) (hh : hi ≤ l.length) (hc : l.length ≤ c) : OpV C L H o (.slice A (l.take hi).length c) := by
  subst hq; rw [List.length_take, Nat.min_eq_left hh]; exact V_sliceTo ho hx hy ht hs (Nat.le_trans hh hc)
end
end Go.Sx
