/- Texts of this proof, one behind the other: TdB, TdC. -/
import Derived.Test.YtpbflnfcgcldkaaGreatDoorMt19
import Derived.Test.YtpbflnfcgcldkaaGreatDoorMt13
import Derived.Lib.ItoaMem
import Derived.Lib.ItoaLen
/- The document's numerals, walked. -/
namespace Go.Proofs.YtpbflnfcgcldkaaGreatDoor.Take
open Go.Sx Go.Proofs Go.RowKit
theorem itoa_le (n : Int) (h : -1000000000000000 ≤ n ∧ n ≤ 1000000000000000) : (stz (Go.Lib.itoa n)).size ≤ 21 := by
  have := Go.Lib.itoa_length_le n (by omega) (by omega)
  rw [← byz_len, byz_stz]; exact this
theorem stz_app (l m : List UInt8) : stz l ++ stz m = stz (l ++ m) := by
  rw [← stz_byz (stz l ++ stz m)]
  congr 1
end Go.Proofs.YtpbflnfcgcldkaaGreatDoor.Take
/- The document's Digits, walked. -/
namespace Go.Proofs.YtpbflnfcgcldkaaGreatDoor.Take
open Go.Sx Go.Proofs Go.RowKit
end Go.Proofs.YtpbflnfcgcldkaaGreatDoor.Take
