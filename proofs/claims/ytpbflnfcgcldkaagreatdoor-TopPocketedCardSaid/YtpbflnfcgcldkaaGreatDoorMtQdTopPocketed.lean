/- Texts of this proof, one behind the other: QdTopPocketed. -/
import Derived.Test.YtpbflnfcgcldkaaGreatDoorRows
import GoSem.ClaimFn
import Derived.KernelRfl
import GoSem.ClaimGoes
/- TopPocketed starts no goroutine. -/
namespace Go.Proofs.YtpbflnfcgcldkaaGreatDoor.pocketed
set_option maxRecDepth 100000 in
theorem goes : false = Rows.topPocketedRow.goesBy Tryz.prog := by kernel_rfl
end Go.Proofs.YtpbflnfcgcldkaaGreatDoor.pocketed
