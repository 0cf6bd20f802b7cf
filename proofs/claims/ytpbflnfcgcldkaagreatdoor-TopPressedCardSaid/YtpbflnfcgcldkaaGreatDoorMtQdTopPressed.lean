/- Texts of this proof, one behind the other: QdTopPressed. -/
import Derived.Test.YtpbflnfcgcldkaaGreatDoorRows
import GoSem.ClaimFn
import Derived.KernelRfl
import GoSem.ClaimGoes
/- TopPressed starts no goroutine. -/
namespace Go.Proofs.YtpbflnfcgcldkaaGreatDoor.pressed
set_option maxRecDepth 100000 in
theorem goes : false = Rows.topPressedRow.goesBy Tryz.prog := by kernel_rfl
end Go.Proofs.YtpbflnfcgcldkaaGreatDoor.pressed
