/- Texts of this proof, one behind the other: SxQ. -/
import Derived.Test.YtdcjgjopmicidaaGreatDoorMt8
import Derived.Lib.Strings
/-
  Pieces of strings, said over lists of bytes.
-/
namespace Go.Sx
open Go.RowKit
theorem stz_extract (l : List UInt8) (lo hi : Nat) : (stz l).extract lo hi = stz ((l.drop lo).take (hi - lo)) := by
  rw [← stz_byz ((stz l).extract lo hi)]
  congr 1
  show ((stz l).extract lo hi).data.toList = _
  rw [Go.Lib.extract_data]
theorem stz_size (l : List UInt8) : (stz l).size = l.length := by rw [← byz_len, byz_stz]
section
variable {C : Cx} {L : Slots} {H : Items} {o : Oper} {t t' : TypeId} {x y z : Operand} {a : List UInt8} {kd kz : IntKind} {lo hi : Nat} {q1 q2 : Int}
theorem V_sliceStrL (ho : o.op = .slice t x (some y) (some z) none) (hx : ev L x = some (.string (stz a))) (hy : ev L y = some (.int kd q1)) (hz : ev L z = some (.int kz q2)) (ht : C.P.underlying t = some .string) (h1 : q1 = (lo : Int)) (h2 : q2 = (hi : Int)) (hh : lo ≤ hi ∧ hi ≤ a.length) :
    OpV C L H o (.string (stz ((a.drop lo).take (hi - lo)))) := stz_extract a lo hi ▸ V_sliceStr ho hx hy hz ht h1 h2 (by rw [stz_size]; exact hh)
theorem V_sliceStrTo (ho : o.op = .slice t x none (some z) none) (hx : ev L x = some (.string (stz a))) (hz : ev L z = some (.int kz q2)) (ht : C.P.underlying t = some .string) (h2 : q2 = (hi : Int)) (hh : hi ≤ a.length) :
    OpV C L H o (.string (stz (a.take hi))) := fun D act w st _ => by
  subst h2
  have e := stz_extract a 0 hi
  have hs := stz_size a
  rw [List.drop_zero, Nat.sub_zero] at e
  rw [← e]
  generalize stz a = b at *
  rw [← hs] at hh
  simp [execOp, ho, st.eval hx, st.eval hz, Instr.sliceAt, underlying, ht, Instr.slice, Instr.sliceBounds, Instr.sliceBound, asIntOf, hh]
theorem V_sliceStrFrom (ho : o.op = .slice t x (some y) none none) (hx : ev L x = some (.string (stz a))) (hy : ev L y = some (.int kd q1)) (ht : C.P.underlying t = some .string) (h1 : q1 = (lo : Int)) (hh : lo ≤ a.length) :
    OpV C L H o (.string (stz (a.drop lo))) := fun D act w st _ => by
  subst h1
  have e := stz_extract a lo a.length
  have hs := stz_size a
  rw [List.take_of_length_le (by rw [List.length_drop]; omega)] at e
  rw [← e, ← hs]
  generalize stz a = b at *
  rw [← hs] at hh
  simp [execOp, ho, st.eval hx, st.eval hy, Instr.sliceAt, underlying, ht, Instr.slice, Instr.sliceBounds, Instr.sliceBound, asIntOf, hh]
end
end Go.Sx
