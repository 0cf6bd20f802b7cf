/- Texts of this proof, one behind the other: Fp3. -/
import Derived.Test.YtncleikbggjmjaaGreatDoorChecked
import Derived.JoinedOf
import Derived.KernelRfl
/- Closed facts of the program: what it may enter, its lifts, its make. -/
namespace Go.Proofs.YtncleikbggjmjaaGreatDoor
set_option maxRecDepth 100000 in
theorem facts_enter : Tryz.prog.mayEnter = true := by kernel_rfl
set_option maxRecDepth 100000 in
theorem facts_lift : Tryz.prog.liftsFinal = false := by kernel_rfl
end Go.Proofs.YtncleikbggjmjaaGreatDoor
