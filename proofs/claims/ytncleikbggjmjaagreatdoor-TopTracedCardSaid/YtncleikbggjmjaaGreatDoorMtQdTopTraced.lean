/- Texts of this proof, one behind the other: QdTopTraced. -/
import Derived.Test.YtncleikbggjmjaaGreatDoorRows
import GoSem.ClaimFn
import Derived.KernelRfl
import GoSem.ClaimGoes
/- TopTraced starts no goroutine. -/
namespace Go.Proofs.YtncleikbggjmjaaGreatDoor.traced
set_option maxRecDepth 100000 in
theorem goes : false = Rows.topTracedRow.goesBy Tryz.prog := by kernel_rfl
end Go.Proofs.YtncleikbggjmjaaGreatDoor.traced
