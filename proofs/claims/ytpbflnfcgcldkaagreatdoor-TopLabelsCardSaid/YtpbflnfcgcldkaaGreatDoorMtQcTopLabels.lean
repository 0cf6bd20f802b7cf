/- Texts of this proof, one behind the other: QcTopLabels. -/
import Derived.Test.YtpbflnfcgcldkaaGreatDoorRows
import GoSem.ClaimFn
import Derived.KernelRfl
/- What the row of TopLabels says of the program's text. -/
namespace Go.Proofs.YtpbflnfcgcldkaaGreatDoor.labels
set_option maxRecDepth 100000 in
theorem in_place : Tryz.prog.inPlace 6 = Rows.topLabelsRow.inPlace := by kernel_rfl
set_option maxRecDepth 100000 in
theorem unfollowed : Tryz.prog.unfollowed 6 = Rows.topLabelsRow.unfollowed := by kernel_rfl
set_option maxRecDepth 100000 in
theorem vars_named : Tryz.prog.varsNamed 6 = Rows.topLabelsRow.named := by kernel_rfl
set_option maxRecDepth 100000 in
theorem recurses : Tryz.prog.recurses 6 = Rows.topLabelsRow.recurses := by unfold Program.recurses; rw [unfollowed]; rfl
end Go.Proofs.YtpbflnfcgcldkaaGreatDoor.labels
