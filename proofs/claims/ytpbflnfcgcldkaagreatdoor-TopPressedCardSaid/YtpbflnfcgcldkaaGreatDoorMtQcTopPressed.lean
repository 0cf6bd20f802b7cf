/- Texts of this proof, one behind the other: QcTopPressed. -/
import Derived.Test.YtpbflnfcgcldkaaGreatDoorRows
import GoSem.ClaimFn
import Derived.KernelRfl
/- What the row of TopPressed says of the program's text. -/
namespace Go.Proofs.YtpbflnfcgcldkaaGreatDoor.pressed
set_option maxRecDepth 100000 in
theorem in_place : Tryz.prog.inPlace 4 = Rows.topPressedRow.inPlace := by kernel_rfl
set_option maxRecDepth 100000 in
theorem unfollowed : Tryz.prog.unfollowed 4 = Rows.topPressedRow.unfollowed := by kernel_rfl
set_option maxRecDepth 100000 in
theorem vars_named : Tryz.prog.varsNamed 4 = Rows.topPressedRow.named := by kernel_rfl
set_option maxRecDepth 100000 in
theorem recurses : Tryz.prog.recurses 4 = Rows.topPressedRow.recurses := by unfold Program.recurses; rw [unfollowed]; rfl
end Go.Proofs.YtpbflnfcgcldkaaGreatDoor.pressed
