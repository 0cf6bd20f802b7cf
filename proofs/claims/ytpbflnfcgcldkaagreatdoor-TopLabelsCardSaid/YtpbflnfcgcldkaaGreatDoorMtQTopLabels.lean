/- Each face of the best plan of an album needs as many labels as there are discs; printed together each label gets as many places as all can have alike, and no fewer sheets are enough; a gang on one plate costs just this, and the best gang no more, for all formats, tracks and numbers (P4.4, P10.2, P10.3, P10.8, P10.9); the listed tables read as laid. -/
import Derived.Test.YtpbflnfcgcldkaaGreatDoorMtQbTopLabels
import Derived.Test.YtpbflnfcgcldkaaGreatDoorMtQdTopLabels
namespace Go.Proofs.YtpbflnfcgcldkaaGreatDoor.labels
open Go.Sx Go.RowKit Go.ChangeShapes Go.WideShapes Go.ChangeAt
theorem proved : Rows.TopLabelsCardSaid :=
  Claim7.holds_tied_plain_at .later [] [.data, .data, .data, .pinned] true (true, "3b1a922c049b75882d13fe0b193323918ad6656cb9ea33217684ce575d37df0a") true said (fun _ h => by cases h) (by kernel_rfl) (fun _ h => by cases h) topLabels_row_tie rfl ⟨rfl, rfl⟩ (by kernel_rfl) rfl
    (fun f fn hf hfn => by
      obtain rfl : f = 6 := Option.some.inj ((show Tryz.prog.funcNamed "deadwax/deadwaxtop.TopLabels" = some 6 by kernel_rfl).symm.trans hf) |>.symm
      obtain rfl : fn = Tryz.f6 := (Option.some.inj (Tryz.func6.symm.trans hfn)).symm
      exact ⟨by kernel_rfl, fun j t ht => by
        rw [Tryz.params6] at ht
        have hm : t ∈ [94, 95, 78, 5, 78] := by simpa using Array.mem_of_getElem? ht
        have hall : ([94, 95, 78, 5, 78].all fun u => !Tryz.prog.wantsStandIn u) = true := by kernel_rfl
        exact (show Tryz.prog.wantsStandIn t = false by simpa using List.all_eq_true.1 hall t hm)⟩)
    goes
end Go.Proofs.YtpbflnfcgcldkaaGreatDoor.labels
