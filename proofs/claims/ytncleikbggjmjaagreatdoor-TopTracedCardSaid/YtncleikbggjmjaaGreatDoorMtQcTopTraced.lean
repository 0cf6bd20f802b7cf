/- Texts of this proof, one behind the other: QcTopTraced. -/
import Derived.Test.YtncleikbggjmjaaGreatDoorRows
import GoSem.ClaimFn
import Derived.KernelRfl
/- What the row of TopTraced says of the program's text. -/
namespace Go.Proofs.YtncleikbggjmjaaGreatDoor.traced
set_option maxRecDepth 100000 in
theorem in_place : Tryz.prog.inPlace 3 = Rows.topTracedRow.inPlace := by kernel_rfl
set_option maxRecDepth 100000 in
theorem unfollowed : Tryz.prog.unfollowed 3 = Rows.topTracedRow.unfollowed := by kernel_rfl
set_option maxRecDepth 100000 in
theorem vars_named : Tryz.prog.varsNamed 3 = Rows.topTracedRow.named := by kernel_rfl
set_option maxRecDepth 100000 in
theorem recurses : Tryz.prog.recurses 3 = Rows.topTracedRow.recurses := by unfold Program.recurses; rw [unfollowed]; rfl
end Go.Proofs.YtncleikbggjmjaaGreatDoor.traced
