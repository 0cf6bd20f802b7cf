/- What comes in to the laws over files: bytes. -/
import Derived.Test.YtdcjgjopmicidaaDoorTaO
import Derived.Test.YtdcjgjopmicidaaDoorSxL
namespace Go.Proofs.YtdcjgjopmicidaaDoor
open Go.Sx Go.RowKit Go.ChangeShapes Go.WideShapes
section
variable {W : World}
set_option maxRecDepth 100000 in
theorem open_bytes {cs : List Value} (h : Dat Tryd.prog W 25 cs) : ∃ A l c, cs = [.slice A (List.length l) c] ∧ RdL W 1 eU A l ∧ l.length ≤ c ∧ c ≤ maxLen := by
  obtain ⟨A, l, c, h1, h2, _, h3, h4⟩ := Dat.slice (enc := eU) (G := fun _ => True) 1 Tryd.underlying25 (by kernel_rfl) (fun cs h => by
    obtain ⟨n, e, hw⟩ := Dat.int Tryd.underlying5 h
    have hb := u8_of hw
    refine ⟨UInt8.ofNat n.toNat, trivial, ?_⟩
    have : (((UInt8.ofNat n.toNat).toNat : Nat) : Int) = n := by rw [UInt8.toNat_ofNat']; omega
    rw [e, eU, this]) eU_len h
  exact ⟨A, l, c, h1, h2, h3, h4⟩
end
end Go.Proofs.YtdcjgjopmicidaaDoor
