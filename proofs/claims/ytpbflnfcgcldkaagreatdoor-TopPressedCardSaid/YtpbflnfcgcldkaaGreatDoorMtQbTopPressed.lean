/- Texts of this proof, one behind the other: QbTopPressed. -/
import Derived.Test.YtpbflnfcgcldkaaGreatDoorMtQaTopPressed
import Derived.Test.YtpbflnfcgcldkaaGreatDoorMtQcTopPressed
import Derived.Test.YtpbflnfcgcldkaaGreatDoorMtFp1
import Derived.Test.YtpbflnfcgcldkaaGreatDoorMtFp2
import Derived.Test.YtpbflnfcgcldkaaGreatDoorMtFp3
/- TopPressed, the statement of its row. -/
namespace Go.Proofs.YtpbflnfcgcldkaaGreatDoor.pressed
open Go.Sx Go.RowKit Go.ChangeShapes Go.WideShapes Go.ChangeAt
set_option maxRecDepth 100000 in
theorem closed : joinedFacts Tryz.prog 4 Tryz.f4 Rows.topPressedSpec Rows.topPressedRow = true := by
  unfold joinedFacts
  rw [facts_laid, facts_maps, facts_stops, facts_knobs, facts_heard, facts_plain, facts_enter, facts_lift, in_place, unfollowed, recurses, vars_named]
  kernel_rfl
set_option maxRecDepth 100000 in
theorem said : Rows.TopPressedSaid :=
  OpenClaim.holds_of_wide 4 Tryz.f4 rfl rfl rfl rfl rfl rfl rfl ⟨rfl, rfl, rfl, rfl, rfl⟩ rfl rfl rfl rfl rfl (by kernel_rfl) Tryz.func4 closed
    (of_decide_eq_true (by kernel_rfl)) (by unfold Func.isWrapper; first | (rw [if_pos (by decide +kernel)]; kernel_rfl) | (rw [if_neg (by decide +kernel)]; exact ⟨rfl, rfl⟩))
    (fun os started H enc _ => lifted os started H enc)
end Go.Proofs.YtpbflnfcgcldkaaGreatDoor.pressed
