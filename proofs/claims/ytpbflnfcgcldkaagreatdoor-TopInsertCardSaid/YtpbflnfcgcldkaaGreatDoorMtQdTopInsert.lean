/- Texts of this proof, one behind the other: QdTopInsert. -/
import Derived.Test.YtpbflnfcgcldkaaGreatDoorRows
import GoSem.ClaimFn
import Derived.KernelRfl
import GoSem.ClaimGoes
/- TopInsert starts no goroutine. -/
namespace Go.Proofs.YtpbflnfcgcldkaaGreatDoor.insert
set_option maxRecDepth 100000 in
theorem goes : false = Rows.topInsertRow.goesBy Tryz.prog := by kernel_rfl
end Go.Proofs.YtpbflnfcgcldkaaGreatDoor.insert
