/- Texts of this proof, one behind the other: Fp1. -/
import Derived.Test.YtncleikbggjmjaaGreatDoorChecked
import Derived.JoinedOf
import Derived.KernelRfl
/- One closed fact of the program: how its variables are laid out. -/
namespace Go.Proofs.YtncleikbggjmjaaGreatDoor
set_option maxRecDepth 100000 in
theorem facts_laid : laidOutB Tryz.prog = true := by kernel_rfl
end Go.Proofs.YtncleikbggjmjaaGreatDoor
