/- Texts of this proof, one behind the other: QbTopTraced. -/
import Derived.Test.YtncleikbggjmjaaGreatDoorMtQaTopTraced
import Derived.Test.YtncleikbggjmjaaGreatDoorMtQcTopTraced
import Derived.Test.YtncleikbggjmjaaGreatDoorMtFp1
import Derived.Test.YtncleikbggjmjaaGreatDoorMtFp2
import Derived.Test.YtncleikbggjmjaaGreatDoorMtFp3
/- TopTraced, the statement of its row. -/
namespace Go.Proofs.YtncleikbggjmjaaGreatDoor.traced
open Go.Sx Go.RowKit Go.ChangeShapes Go.WideShapes Go.ChangeAt
set_option maxRecDepth 100000 in
theorem closed : joinedFacts Tryz.prog 3 Tryz.f3 Rows.topTracedSpec Rows.topTracedRow = true := by
  unfold joinedFacts
  rw [facts_laid, facts_maps, facts_stops, facts_knobs, facts_heard, facts_plain, facts_enter, facts_lift, in_place, unfollowed, recurses, vars_named]
  kernel_rfl
set_option maxRecDepth 100000 in
theorem said : Rows.TopTracedSaid :=
  OpenClaim.holds_of_wide 3 Tryz.f3 rfl rfl rfl rfl rfl rfl rfl ⟨rfl, rfl, rfl, rfl, rfl⟩ rfl rfl rfl rfl rfl (by kernel_rfl) Tryz.func3 closed
    (of_decide_eq_true (by kernel_rfl)) (by unfold Func.isWrapper; first | (rw [if_pos (by decide +kernel)]; kernel_rfl) | (rw [if_neg (by decide +kernel)]; exact ⟨rfl, rfl⟩))
    (fun os started H enc _ => lifted os started H enc)
end Go.Proofs.YtncleikbggjmjaaGreatDoor.traced
