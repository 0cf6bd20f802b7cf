/- Texts of this proof, one behind the other: QcTopInsert. -/
import Derived.Test.YtpbflnfcgcldkaaGreatDoorRows
import GoSem.ClaimFn
import Derived.KernelRfl
/- What the row of TopInsert says of the program's text. -/
namespace Go.Proofs.YtpbflnfcgcldkaaGreatDoor.insert
set_option maxRecDepth 100000 in
theorem in_place : Tryz.prog.inPlace 7 = Rows.topInsertRow.inPlace := by kernel_rfl
set_option maxRecDepth 100000 in
theorem unfollowed : Tryz.prog.unfollowed 7 = Rows.topInsertRow.unfollowed := by kernel_rfl
set_option maxRecDepth 100000 in
theorem vars_named : Tryz.prog.varsNamed 7 = Rows.topInsertRow.named := by kernel_rfl
set_option maxRecDepth 100000 in
theorem recurses : Tryz.prog.recurses 7 = Rows.topInsertRow.recurses := by unfold Program.recurses; rw [unfollowed]; rfl
end Go.Proofs.YtpbflnfcgcldkaaGreatDoor.insert
