/- Texts of this proof, one behind the other: QcTopPocketed. -/
import Derived.Test.YtpbflnfcgcldkaaGreatDoorRows
import GoSem.ClaimFn
import Derived.KernelRfl
/- What the row of TopPocketed says of the program's text. -/
namespace Go.Proofs.YtpbflnfcgcldkaaGreatDoor.pocketed
set_option maxRecDepth 100000 in
theorem in_place : Tryz.prog.inPlace 5 = Rows.topPocketedRow.inPlace := by kernel_rfl
set_option maxRecDepth 100000 in
theorem unfollowed : Tryz.prog.unfollowed 5 = Rows.topPocketedRow.unfollowed := by kernel_rfl
set_option maxRecDepth 100000 in
theorem vars_named : Tryz.prog.varsNamed 5 = Rows.topPocketedRow.named := by kernel_rfl
set_option maxRecDepth 100000 in
theorem recurses : Tryz.prog.recurses 5 = Rows.topPocketedRow.recurses := by unfold Program.recurses; rw [unfollowed]; rfl
end Go.Proofs.YtpbflnfcgcldkaaGreatDoor.pocketed
