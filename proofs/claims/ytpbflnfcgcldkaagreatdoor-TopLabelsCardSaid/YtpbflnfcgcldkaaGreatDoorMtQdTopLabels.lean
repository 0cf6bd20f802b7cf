/- Texts of this proof, one behind the other: QdTopLabels. -/
import Derived.Test.YtpbflnfcgcldkaaGreatDoorRows
import GoSem.ClaimFn
import Derived.KernelRfl
import GoSem.ClaimGoes
/- TopLabels starts no goroutine. -/
namespace Go.Proofs.YtpbflnfcgcldkaaGreatDoor.labels
set_option maxRecDepth 100000 in
theorem goes : false = Rows.topLabelsRow.goesBy Tryz.prog := by kernel_rfl
end Go.Proofs.YtpbflnfcgcldkaaGreatDoor.labels
