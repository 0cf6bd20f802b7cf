/-
  s[lo:hi] of a list.
-/
import Derived.Test.YtdcjgjopmicidaaDoorSxM
namespace Go.Sx
open Go.RowKit
section
variable {C : Cx} {L : Slots} {H : Items} {o : Oper} {t e sz c : Nat} {x y z : Operand} {A : Option Addr} {kd kz : IntKind}
theorem V_sliceFTL {α : Type} {l : List α} {q1 q2 : Int} {lo k : Nat} (ho : o.op = .slice t x (some y) (some z) none) (hx : ev L x = some (.slice A l.length c)) (hy : ev L y = some (.int kd q1)) (hz : ev L z = some (.int kz q2)) (ht : C.P.underlying t = some (.slice e))
    (hs : szOf C.P e = some sz) (h1 : q1 = (lo : Int)) (h2 : q2 = ((lo + k : Nat) : Int)) (hk : lo + k ≤ l.length) (hc : l.length ≤ c) : OpV C L H o (.slice (slA c lo sz A) ((l.drop lo).take k).length (c - lo)) := by
  subst h1; subst h2
  have e1 : ((l.drop lo).take k).length = lo + k - lo := by rw [List.length_take, List.length_drop]; omega
  rw [e1]
  exact V_sliceFT ho hx hy hz ht hs (by omega) (by omega)
end
end Go.Sx
