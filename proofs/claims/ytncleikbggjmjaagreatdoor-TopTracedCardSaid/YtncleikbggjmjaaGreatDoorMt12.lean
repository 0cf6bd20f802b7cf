/- Texts of this proof, one behind the other: SxL, SxM, SxN. -/
import Derived.Test.YtncleikbggjmjaaGreatDoorMt11
import Derived.Laws.IdiomStrings
/-
  Bytes and strings: []byte(s), string(b), append(b, s...).
-/
namespace Go.Sx
open Go.RowKit
def eU (x : UInt8) : List Value := [.int .u8 x.toNat]
theorem eU_len (x : UInt8) : (eU x).length = 1 := rfl
theorem flat_eU (l : List UInt8) : l.flatMap eU = l.map fun b => Value.int .u8 b.toNat := by
  induction l with
  | nil => rfl
  | cons x l ih => rw [List.flatMap_cons, ih]; rfl
abbrev byz (s : ByteArray) : List UInt8 := s.data.toList
theorem byz_len (s : ByteArray) : (byz s).length = s.size := Array.length_toList
section
variable {C : Cx} {L : Slots} {H : Items} {o : Oper} {t t' e : TypeId} {x : Operand}
end
def RowB (e : TypeId) (l : List UInt8) (b : Nat) (I : Items) : Prop := ∃ rest fr, I = [(b, .cells (l.flatMap eU ++ rest).toArray e fr)]
theorem RowB.rd {e b : Nat} {l : List UInt8} {I H H1 : Items} {w0 w : World} {M : Nat → Prop} (h : RowB e l b I) [hc : HChunk I H H1] (m : SH w0 M H w) : RdL w 1 eU (some ⟨b, 0, none⟩) l := by
  obtain ⟨rest, fr, rfl⟩ := h
  exact RdL.own (rest := rest) (m.perm hc.perm) eU_len
section
variable {C : Cx} {L : Slots} {D : List Deferred} {H : Items} {k : List Item} {ops : Array Oper} {i d : Nat} {o : Oper} {n : Tr} {pend : List Nat}
theorem GT_strBytes {t t' e : Nat} {x : Operand} {s : ByteArray} (ho : opAt ops i = some o) (hop : o.op = .convert t t' x) (hg : o.guard = none) (hd : o.dst = some d) (hN : Nat.blt d C.N = true) (hx : ev L x = some (.string s)) (ht : C.P.underlying t = some .string) (ht' : C.P.underlying t' = some (.slice e)) (he : C.P.underlying e = some (.int .u8))
    (hp : ∀ b c I, RowB e (byz s) b I → GR C ops ((d, .slice (some ⟨b, 0, none⟩) (byz s).length c) :: L) D (I ++ H) pend)
    (h : ∀ b c I, RowB e (byz s) b I → GT C ops k ((d, .slice (some ⟨b, 0, none⟩) (byz s).length c) :: L) D (I ++ H) n) : GT C ops k L D H (.ld i pend n) := by
  refine GT_ld ho hg (by simp [Oper.isDefer, hop]) fun a w st m => ?_
  have hrun := run_bytes_of_string (P := C.P) w t t' e s ht ht' he
  generalize grownCap w s.size 0 e = cap at hrun
  have e1 : (execOp a.eval o).run C.P w = .ok (.value (.slice (some ⟨w.heap.size, 0, none⟩) (byz s).length cap)) (w.drew.alloc (.cells (bytesRow s cap) e ((bytesRow s cap).size, (bytesRow s cap).size + 1))) := by
    rw [byz_len]
    simp [execOp, hop, st.eval hx, hrun]
  rw [e1]
  have hrow : RowB e (byz s) w.heap.size [(w.heap.size, .cells (bytesRow s cap) e ((bytesRow s cap).size, (bytesRow s cap).size + 1))] := by
    refine ⟨(List.replicate (cap - s.size) (Value.int .u8 0)), ((bytesRow s cap).size, (bytesRow s cap).size + 1), ?_⟩
    have : bytesRow s cap = ((byz s).flatMap eU ++ List.replicate (cap - s.size) (Value.int .u8 0)).toArray := by
      apply Array.toList_inj.1
      simp [bytesRow, byz, flat_eU]
    rw [this]
  have m' : SH C.w0 C.M ([(w.heap.size, .cells (bytesRow s cap) e ((bytesRow s cap).size, (bytesRow s cap).size + 1))] ++ H) (w.drew.alloc (.cells (bytesRow s cap) e ((bytesRow s cap).size, (bytesRow s cap).size + 1))) := by
    have := (m.drew).alloc (.cells (bytesRow s cap) e ((bytesRow s cap).size, (bytesRow s cap).size + 1))
    exact this
  exact ⟨_, _, by rw [hd]; exact st.put hN _, m', hp _ _ _ hrow, h _ _ _ hrow⟩
end
/-! ### append(b, s...) -/
section
variable {P : Program} (w : World)
end
section
variable {C : Cx} {L : Slots} {D : List Deferred} {H : Items} {k : List Item} {ops : Array Oper} {i d : Nat} {o : Oper} {n : Tr} {pend : List Nat}
variable {e : Nat} {l : List UInt8} {v : Value} {I H1 : Items}
end
end Go.Sx
/-
  Shifts to the left, and the bits of two numbers.
-/
namespace Go.Sx
open Go.RowKit
section
variable {C : Cx} {L : Slots} {H : Items} {o : Oper} {t t' : TypeId} {x y : Operand}
end
section
variable {C : Cx} {L : Slots} {D : List Deferred} {H : Items} {k : List Item} {ops : Array Oper} {i d : Nat} {o : Oper} {n : Tr} {pend : List Nat}
end
end Go.Sx
/-
  s[lo:hi] of a list.
-/
namespace Go.Sx
open Go.RowKit
section
variable {C : Cx} {L : Slots} {H : Items} {o : Oper} {t e sz c : Nat} {x y z : Operand} {A : Option Addr} {kd kz : IntKind}
end
end Go.Sx
